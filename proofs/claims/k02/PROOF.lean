import PyProof.Rows.All
import Wide.All
import OpenK.AllK
import Wide.FinOn
import KE.KStateDown
import Lean
import HandS.ForMost
import HandS.ForExc
import HandS.IsInst
import HandS.TupAny
import HandS.TupMul
import HandS.Deep
import HandS.Style
import HandS.Flow
import HandS.Defaults
import HandS.TryMany
import HandS.Head0
import HandS.Head1
import HandS.Head2
import HandS.HeadEnd
import HandS.HeadHook1
import HandS.HeadHook2
import HandS.HeadHook3
import HandS.HeadHook4
import KE.SortData
import KE.KDictKeyed
import KE.GoesEnum
import KE.GoesNew
import HandS.Conv
import HandS.RaiseMore
import PySem.Challenge.RW_renewedagain_k02_whole_deeds_one_by_one
set_option Elab.async false
set_option linter.all false
set_option maxRecDepth 100000
set_option maxHeartbeats 4000000
namespace RL
open PySem PySem.Spec PyProof.Rows L2

/-! ### results, slots -/
inductive R (α : Type) where
  | ok (a : α) | exc (n : Str) | stuck | ask (n : Nat) (k : Nat → R α)
def R.bd {α β : Type} : R α → (α → R β) → R β
  | .ok a, f => f a
  | .exc n, _ => .exc n
  | .stuck, _ => .stuck
  | .ask n k, f => .ask n fun i => (k i).bd f
def R.of {α : Type} : Option α → R α
  | some a => .ok a
  | none => .stuck
@[simp] theorem R.bd_ok {α β : Type} (a : α) (f : α → R β) : (R.ok a).bd f = f a := rfl
@[simp] theorem R.bd_exc {α β : Type} (n : Str) (f : α → R β) : (R.exc n : R α).bd f = .exc n := rfl
@[simp] theorem R.bd_stuck {α β : Type} (f : α → R β) : (R.stuck : R α).bd f = .stuck := rfl
@[simp] theorem R.bd_ask {α β : Type} (n : Nat) (k : Nat → R α) (f : α → R β) : (R.ask n k).bd f = .ask n fun i => (k i).bd f := rfl
@[simp] theorem R.of_some {α : Type} (a : α) : R.of (some a) = .ok a := rfl
@[simp] theorem R.of_none {α : Type} : (R.of none : R α) = .stuck := rfl
theorem R.bd_ite {α β : Type} {c : Prop} [Decidable c] (a b : R α) (f : α → R β) : (if c then a else b).bd f = if c then a.bd f else b.bd f := by
  split <;> rfl
theorem R.bd_bd {α β γ : Type} (m : R α) (f : α → R β) (g : β → R γ) : (m.bd f).bd g = m.bd fun a => (f a).bd g := by
  induction m with
  | ok a => rfl
  | exc n => rfl
  | stuck => rfl
  | ask n k ih => exact congrArg (R.ask n) (funext ih)
inductive Sl where
  | u | d (x : PyData) | r (v : V) | s | o (ds : List PyData)
abbrev Rho := List Sl
/-- what draws are taken from: a list of two ints, both not negative, the second below a bound -/
def SrcL (h : Heap) (a : Addr) : Prop := ∃ (c n : Int) (t u : Tok) (k : Nat), 0 ≤ c ∧ 0 ≤ n ∧ n < 2147483549 ∧ h.get? a = some { cls := .type "list", data := .seq #[.int c t, .int n u] k }
def srcHO (a : Addr) : HO := .ext fun h => SrcL h a
/-- a list of one's own: changed in place, seen by no data -/
def OwnL (h : Heap) (a : Addr) (vs : List V) : Prop := vs.length ≤ sizeLine ∧ ∃ (its : List Value) (n : Nat), Vals vs its ∧ h.get? a = some { cls := .type "list", data := .seq its.toArray n }
def ownHO (a : Addr) (vs : List V) : HO := .ext fun h => OwnL h a vs
def SlotR (K : PySem.W.Frag) (H : Hp) : Sl → Option V → Prop
  | .u, _ => True
  | .d x, o => ∃ v, o = some v ∧ Dp K H v x
  | .r v, o => o = some v
  | .s, o => ∃ a, o = some (.ref a) ∧ H a = some (srcHO a)
  | .o ds, o => ∃ a vs, o = some (.ref a) ∧ H a = some (ownHO a vs) ∧ DpAll K H vs ds
abbrev EnvP (K : PySem.W.Frag) (H : Hp) (σ : L2.St) (ρ : Rho) : Prop := Paired (SlotR K H) ρ σ
def isOwn : Sl → Bool
  | .s => true
  | .o _ => true
  | _ => false
/-- things of one's own stand apart -/
def Dst (σ : L2.St) (ρ : Rho) : Prop := ∀ (i j : Nat) (a : Addr) (x y : Sl), ρ[i]? = some x → ρ[j]? = some y → isOwn x = true → isOwn y = true → σ[i]? = some (some (V.ref a)) → σ[j]? = some (some (V.ref a)) → i = j
structure EnvR (K : PySem.W.Frag) (H : Hp) (σ : L2.St) (ρ : Rho) : Prop where
  p : EnvP K H σ ρ
  d : Dst σ ρ

/-! ### data stays -/
theorem same_upd {H : Hp} {p : Addr} {o : HO} (hp : H p = none) : Same H (upd H p o) := fun b u e => by
  rw [upd_ne (ne_of_none e hp)]; exact e
theorem SqL.same {K : PySem.W.Frag} {H H' : Hp} {a : Addr} {xs : List V} (e : Same H H') (h : SqL K H a xs) : SqL K H' a xs := by
  rcases h with (h | ⟨o, h⟩) | h
  · exact .inl (.inl (e _ _ h))
  · exact .inl (.inr ⟨o, e _ _ h⟩)
  · exact .inr h
theorem SqT.same {K : PySem.W.Frag} {H H' : Hp} {a : Addr} {xs : List V} (e : Same H H') (h : SqT K H a xs) : SqT K H' a xs := by
  rcases h with (h | ⟨o, h⟩) | h
  · exact .inl (.inl (e _ _ h))
  · exact .inl (.inr ⟨o, e _ _ h⟩)
  · exact .inr h
/-- all but one's own things stays -/
def Grow (H H' : Hp) : Prop := ∀ a o, H a = some o → (∀ φ, o ≠ .ext φ) → H' a = some o
theorem Grow.of {H H' : Hp} (s : Same H H') : Grow H H' := fun a o h _ => s a o h
theorem Grow.refl (H : Hp) : Grow H H := fun _ _ h _ => h
theorem Grow.trans {H H1 H2 : Hp} (a : Grow H H1) (b : Grow H1 H2) : Grow H H2 := fun p o h n => b p o (a p o h n) n
theorem Grow.upd {H : Hp} {p : Addr} {φ : Heap → Prop} {o : HO} (h : H p = some (.ext φ)) : Grow H (L2.upd H p o) := fun a u q n => by
  rw [upd_ne]
  · exact q
  · rintro rfl
    rw [h] at q
    exact (n φ (Option.some.inj q).symm).elim
theorem SqL.grow {K : PySem.W.Frag} {H H' : Hp} {a : Addr} {xs : List V} (e : Grow H H') (h : SqL K H a xs) : SqL K H' a xs := by
  rcases h with (h | ⟨o, h⟩) | h
  · exact .inl (.inl (e _ _ h fun _ z => nomatch z))
  · exact .inl (.inr ⟨o, e _ _ h fun _ z => nomatch z⟩)
  · exact .inr h
theorem SqT.grow {K : PySem.W.Frag} {H H' : Hp} {a : Addr} {xs : List V} (e : Grow H H') (h : SqT K H a xs) : SqT K H' a xs := by
  rcases h with (h | ⟨o, h⟩) | h
  · exact .inl (.inl (e _ _ h fun _ z => nomatch z))
  · exact .inl (.inr ⟨o, e _ _ h fun _ z => nomatch z⟩)
  · exact .inr h
mutual
theorem dp_grow {K : PySem.W.Frag} {H H' : Hp} (e : Grow H H') : ∀ {d : PyData} {v : V}, Dp K H v d → Dp K H' v d
  | .none, _, h => by cases h; exact .non
  | .bool _, _, h => by cases h; exact .bl _
  | .int _, _, h => by cases h; exact .int _
  | .str _, _, h => by cases h; exact .str _
  | .list ds, _, h => by
    cases h with
    | lst hs ha => exact .lst (SqL.grow e hs) (dpAll_grow e ha)
  | .tuple ds, _, h => by
    cases h with
    | tup hs ha => exact .tup (SqT.grow e hs) (dpAll_grow e ha)
  | .dict _, _, h => by cases h
theorem dpAll_grow {K : PySem.W.Frag} {H H' : Hp} (e : Grow H H') : ∀ {ds : List PyData} {vs : List V}, DpAll K H vs ds → DpAll K H' vs ds
  | [], _, h => by cases h; exact .nil
  | d :: ds, _, h => by
    cases h with
    | cons h1 h2 => exact .cons (dp_grow e h1) (dpAll_grow e h2)
end
mutual
theorem dp_same {K : PySem.W.Frag} {H H' : Hp} (e : Same H H') : ∀ {d : PyData} {v : V}, Dp K H v d → Dp K H' v d
  | .none, _, h => by cases h; exact .non
  | .bool _, _, h => by cases h; exact .bl _
  | .int _, _, h => by cases h; exact .int _
  | .str _, _, h => by cases h; exact .str _
  | .list ds, _, h => by
    cases h with
    | lst hs ha => exact .lst (SqL.same e hs) (dpAll_same e ha)
  | .tuple ds, _, h => by
    cases h with
    | tup hs ha => exact .tup (SqT.same e hs) (dpAll_same e ha)
  | .dict _, _, h => by cases h
theorem dpAll_same {K : PySem.W.Frag} {H H' : Hp} (e : Same H H') : ∀ {ds : List PyData} {vs : List V}, DpAll K H vs ds → DpAll K H' vs ds
  | [], _, h => by cases h; exact .nil
  | d :: ds, _, h => by
    cases h with
    | cons h1 h2 => exact .cons (dp_same e h1) (dpAll_same e h2)
end
section
variable {K : PySem.W.Frag} {H H' : Hp}
theorem dpAll_append : ∀ {xs ys : List V} {ds es : List PyData}, DpAll K H xs ds → DpAll K H ys es → DpAll K H (xs ++ ys) (ds ++ es)
  | _, _, _, _, .nil, h => h
  | _, _, _, _, .cons a r, h => .cons a (dpAll_append r h)
theorem dpAll_length : ∀ {xs : List V} {ds : List PyData}, DpAll K H xs ds → xs.length = ds.length
  | _, _, .nil => rfl
  | _, _, .cons _ r => by rw [List.length_cons, List.length_cons, dpAll_length r]
theorem dpAll_get : ∀ {xs : List V} {ds : List PyData} {i : Nat} {d : PyData}, DpAll K H xs ds → ds[i]? = some d → ∃ v, xs[i]? = some v ∧ Dp K H v d
  | _, _, _, _, .nil, e => by simp at e
  | _, _, 0, d, .cons a r, e => by
    have e' : _ = d := Option.some.inj e
    subst e'
    exact ⟨_, rfl, a⟩
  | _, _, i + 1, d, .cons a r, e => by
    obtain ⟨v, h1, h2⟩ := dpAll_get (i := i) (d := d) r (by simpa using e)
    exact ⟨v, by simpa using h1, h2⟩
theorem dpAll_getV : ∀ {xs : List V} {ds : List PyData} {i : Nat} {v : V}, DpAll K H xs ds → xs[i]? = some v → ∃ d, ds[i]? = some d ∧ Dp K H v d
  | _, _, _, _, .nil, e => by simp at e
  | _, _, 0, d, .cons a r, e => by
    have e' : _ = d := Option.some.inj e
    subst e'
    exact ⟨_, rfl, a⟩
  | _, _, i + 1, d, .cons a r, e => by
    obtain ⟨v, h1, h2⟩ := dpAll_getV (i := i) (v := d) r (by simpa using e)
    exact ⟨v, by simpa using h1, h2⟩
theorem dpAll_take : ∀ {xs : List V} {ds : List PyData} (n : Nat), DpAll K H xs ds → DpAll K H (xs.take n) (ds.take n)
  | _, _, 0, _ => .nil
  | _, _, _ + 1, .nil => .nil
  | _, _, n + 1, .cons a r => .cons a (dpAll_take n r)
theorem dpAll_drop : ∀ {xs : List V} {ds : List PyData} (n : Nat), DpAll K H xs ds → DpAll K H (xs.drop n) (ds.drop n)
  | _, _, 0, h => h
  | _, _, _ + 1, .nil => .nil
  | _, _, n + 1, .cons a r => dpAll_drop n r
theorem dpAll_rep {xs : List V} {ds : List PyData} (h : DpAll K H xs ds) : ∀ n : Nat, DpAll K H (List.replicate n xs).flatten (List.replicate n ds).flatten
  | 0 => .nil
  | n + 1 => by
    rw [List.replicate_succ, List.replicate_succ, List.flatten_cons, List.flatten_cons]
    exact dpAll_append h (dpAll_rep h n)
theorem SlotR.same (e : Same H H') {x : Sl} {o : Option V} (h : SlotR K H x o) : SlotR K H' x o := by
  cases x with
  | u => trivial
  | d x => obtain ⟨v, e1, h1⟩ := h; exact ⟨v, e1, dp_same e h1⟩
  | r v => exact h
  | s => obtain ⟨a, e1, h1⟩ := h; exact ⟨a, e1, e _ _ h1⟩
  | o ds => obtain ⟨a, vs, e1, h1, h2⟩ := h; exact ⟨a, vs, e1, e _ _ h1, dpAll_same e h2⟩
theorem EnvP.same (e : Same H H') : ∀ {ρ : Rho} {σ : L2.St}, EnvP K H σ ρ → EnvP K H' σ ρ
  | _, _, .nil => .nil
  | _, _, .cons a r => .cons (SlotR.same e a) (EnvP.same e r)
theorem EnvR.same (e : Same H H') {ρ : Rho} {σ : L2.St} (h : EnvR K H σ ρ) : EnvR K H' σ ρ := ⟨h.p.same e, h.d⟩
theorem EnvP.at : ∀ {ρ : Rho} {σ : L2.St} {i : Nat} {x : Sl}, EnvP K H σ ρ → ρ[i]? = some x → ∃ o, σ[i]? = some o ∧ SlotR K H x o
  | _, _, _, _, .nil, e => by simp at e
  | _, _, 0, x, .cons a r, e => by
    have e' := Option.some.inj e
    subst e'
    exact ⟨_, rfl, a⟩
  | _, _, i + 1, x, .cons a r, e => by
    obtain ⟨o, h1, h2⟩ := EnvP.at (i := i) (x := x) r (by simpa using e)
    exact ⟨o, by simpa using h1, h2⟩
theorem EnvR.get {ρ : Rho} {σ : L2.St} {i : Nat} {x : PyData} (h : EnvR K H σ ρ) (e : ρ[i]? = some (.d x)) : ∃ v, σ[i]? = some (some v) ∧ Dp K H v x := by
  obtain ⟨o, h1, v, h2, h3⟩ := h.p.at e
  exact ⟨v, by rw [h1, h2], h3⟩
theorem EnvR.getR {ρ : Rho} {σ : L2.St} {i : Nat} {v : V} (h : EnvR K H σ ρ) (e : ρ[i]? = some (.r v)) : σ[i]? = some (some v) := by
  obtain ⟨o, h1, h2⟩ := h.p.at e
  rw [h1]; exact congrArg some h2
theorem EnvR.getS {ρ : Rho} {σ : L2.St} {i : Nat} (h : EnvR K H σ ρ) (e : ρ[i]? = some .s) : ∃ a, σ[i]? = some (some (.ref a)) ∧ H a = some (srcHO a) := by
  obtain ⟨o, h1, a, h2, h3⟩ := h.p.at e
  exact ⟨a, by rw [h1, h2], h3⟩
theorem EnvR.getO {ρ : Rho} {σ : L2.St} {i : Nat} {ds : List PyData} (h : EnvR K H σ ρ) (e : ρ[i]? = some (.o ds)) : ∃ a vs, σ[i]? = some (some (.ref a)) ∧ H a = some (ownHO a vs) ∧ DpAll K H vs ds := by
  obtain ⟨o, h1, a, vs, h2, h3, h4⟩ := h.p.at e
  exact ⟨a, vs, by rw [h1, h2], h3, h4⟩
theorem EnvP.set {x : Sl} {o : Option V} (h : SlotR K H x o) : ∀ {ρ : Rho} {σ : L2.St} (i : Nat), EnvP K H σ ρ → EnvP K H (σ.set i o) (ρ.set i x)
  | _, _, _, .nil => .nil
  | _, _, 0, .cons a r => .cons h r
  | _, _, i + 1, .cons a r => .cons a (EnvP.set h i r)
theorem set_get {α : Type} {l : List α} {i k : Nat} {x y : α} (h : (l.set i x)[k]? = some y) : (k = i ∧ y = x) ∨ (k ≠ i ∧ l[k]? = some y) := by
  by_cases e : k = i
  · subst e
    rw [List.getElem?_set_self'] at h
    cases z : l[k]? with
    | none => rw [z] at h; cases h
    | some w => rw [z] at h; exact .inl ⟨rfl, (Option.some.inj h).symm⟩
  · rw [List.getElem?_set_ne (fun z => e z.symm)] at h
    exact .inr ⟨e, h⟩
theorem Dst.set {σ : L2.St} {ρ : Rho} {x : Sl} {o : Option V} (d : Dst σ ρ) (i : Nat) (h : isOwn x = true → ∀ (j : Nat) (y : Sl) (a : Addr), j ≠ i → ρ[j]? = some y → isOwn y = true → o = some (.ref a) → σ[j]? ≠ some (some (V.ref a))) : Dst (σ.set i o) (ρ.set i x) := by
  intro j k a y z hy hz oy oz sy sz
  rcases set_get hy with ⟨e1, e2⟩ | ⟨nj, hy2⟩
  · rcases set_get hz with ⟨e3, e4⟩ | ⟨nk, hz2⟩
    · rw [e1, e3]
    · rcases set_get sy with ⟨_, e⟩ | ⟨n, _⟩
      · rcases set_get sz with ⟨e2', _⟩ | ⟨_, sz2⟩
        · exact (nk e2').elim
        · exact (h (by rw [← e2]; exact oy) k z a nk hz2 oz e.symm sz2).elim
      · exact (n e1).elim
  · rcases set_get hz with ⟨e3, e4⟩ | ⟨nk, hz2⟩
    · rcases set_get sz with ⟨_, e⟩ | ⟨n, _⟩
      · rcases set_get sy with ⟨e2', _⟩ | ⟨_, sy2⟩
        · exact (nj e2').elim
        · exact (h (by rw [← e4]; exact oz) j y a nj hy2 oy e.symm sy2).elim
      · exact (n e3).elim
    · rcases set_get sy with ⟨e, _⟩ | ⟨_, sy2⟩
      · exact (nj e).elim
      · rcases set_get sz with ⟨e, _⟩ | ⟨_, sz2⟩
        · exact (nk e).elim
        · exact d j k a y z hy2 hz2 oy oz sy2 sz2
theorem Dst.none {σ : L2.St} {ρ : Rho} (h : ∀ x ∈ ρ, isOwn x = false) : Dst σ ρ := fun i j a x y hx _ ox _ _ _ => by
  rw [h x (List.mem_of_getElem? hx)] at ox
  cases ox
theorem Dst.head {σ : L2.St} {ρ : Rho} {z : Sl} (h : ∀ x ∈ ρ, isOwn x = false) : Dst σ (z :: ρ) := fun i j a x y hx hy ox oy _ _ => by
  cases i with
  | zero =>
    cases j with
    | zero => rfl
    | succ j =>
      rw [h y (List.mem_of_getElem? (i := j) (by simpa using hy))] at oy
      cases oy
  | succ i =>
    rw [h x (List.mem_of_getElem? (i := i) (by simpa using hx))] at ox
    cases ox
theorem EnvR.set {x : Sl} {o : Option V} (h : SlotR K H x o) (hx : isOwn x = false := by rfl) {ρ : Rho} {σ : L2.St} (i : Nat) (e : EnvR K H σ ρ) : EnvR K H (σ.set i o) (ρ.set i x) := ⟨e.p.set h i, e.d.set i fun z => by rw [hx] at z; cases z⟩
theorem EnvR.setD {x : PyData} {v : V} {ρ : Rho} {σ : L2.St} (e : EnvR K H σ ρ) (i : Nat) (h : Dp K H v x) : EnvR K H (σ.set i (some v)) (ρ.set i (.d x)) := EnvR.set (x := .d x) (o := some v) ⟨v, rfl, h⟩ rfl i e
theorem EnvR.setR {v : V} {ρ : Rho} {σ : L2.St} (e : EnvR K H σ ρ) (i : Nat) : EnvR K H (σ.set i (some v)) (ρ.set i (.r v)) := EnvR.set (x := .r v) (o := some v) rfl rfl i e
def wipeE (ρ : Rho) : List Nat → Rho
  | [] => ρ
  | i :: r => (wipeE ρ r).set i .u
theorem EnvR.wipe {ρ : Rho} {σ : L2.St} (e : EnvR K H σ ρ) : ∀ vs : List Nat, EnvR K H (L2.wipe σ vs) (wipeE ρ vs)
  | [] => e
  | i :: r => EnvR.set (x := .u) trivial rfl i (EnvR.wipe e r)
end

/-! ### the judgements, weakened -/
theorem pe_imp {X : Cx} {e : Expr} {t t' : TE} (h : PE X e t) (i : ∀ σ H Q, t' σ H Q → t σ H Q) : PE X e t' := ⟨fun pins s σ H Q I w => h.run pins s σ H Q I (i _ _ _ w)⟩
theorem pt_imp {X : Cx} {e : Expr} {t t' : TT} (h : PT X e t) (i : ∀ σ H Q, t' σ H Q → t σ H Q) : PT X e t' := ⟨fun pins s σ H Q I w => h.run pins s σ H Q I (i _ _ _ w)⟩
theorem pa_imp {X : Cx} {es : List Expr} {t t' : TA} (h : PA X es t) (i : ∀ σ H Q, t' σ H Q → t σ H Q) : PA X es t' := ⟨fun pos pins s σ H Q I w => h.run pos pins s σ H Q I (i _ _ _ w)⟩
theorem ps_imp {X : Cx} {e : Stmt} {t t' : TS} (h : PS X e t) (i : ∀ D σ H, t' D σ H → t D σ H) : PS X e t' := ⟨fun pins s σ H Q I w => h.run pins s σ H Q I (i _ _ _ w)⟩
theorem pss_imp {X : Cx} {e : List Stmt} {t t' : TS} (h : PSs X e t) (i : ∀ D σ H, t' D σ H → t D σ H) : PSs X e t' := ⟨fun pins s σ H Q I w => h.run pins s σ H Q I (i _ _ _ w)⟩
theorem pi_imp {X : Cx} {tg iter : Expr} {t t' : TI} (h : PI X tg iter t) (i : ∀ σ H R, t' σ H R → t σ H R) : PI X tg iter t' := ⟨fun pins s σ H R I w => h.run pins s σ H R I (i _ _ _ w)⟩

/-! ### what a pure piece gives -/
section
variable {α β γ δ : Type}
def PostG (mg : Str → Option Value) (W : WX) (σ : L2.St) (H : Hp) (rel : Hp → β → α → Prop) (Q : β → Hp → Prop) : R α → Prop
  | .ok a => ∀ v H', Same H H' → rel H' v a → Q v H'
  | .exc n => ∀ C H', mg n = some (.ref C) → Same H H' → W (.ref C) none σ H'
  | .stuck => False
  | .ask n k => ∀ i, i < n → PostG mg W σ H rel Q (k i)
variable {mg : Str → Option Value} {W : WX} {σ : L2.St} {H H1 : Hp} {rel : Hp → β → α → Prop} {rel2 : Hp → δ → γ → Prop} {Q Q' : β → Hp → Prop} {Q2 : δ → Hp → Prop}
theorem PostG.mono {m : R α} (s : Same H H1) (h : PostG mg W σ H rel Q m) : PostG mg W σ H1 rel Q m := by
  induction m with
  | ok a => exact fun v H' s' r => h v H' (s.trans s') r
  | exc n => exact fun C H' e s' => h C H' e (s.trans s')
  | stuck => exact h
  | ask n k ih => exact fun i hi => ih i (h i hi)
theorem PostG.seq0 {m : R α} {k : α → R γ} (post : PostG mg W σ H rel2 Q2 (m.bd k)) (h : ∀ a v H1, Same H H1 → rel H1 v a → PostG mg W σ H rel2 Q2 (k a) → Q v H1) : PostG mg W σ H rel Q m := by
  induction m with
  | ok a => exact fun v H' s r => h a v H' s r post
  | exc n => exact post
  | stuck => exact post
  | ask n k ih => exact fun i hi => ih i (post i hi)
theorem PostG.seq {m : R α} {k : α → R γ} (post : PostG mg W σ H rel2 Q2 (m.bd k)) (h : ∀ a v H1, True → Same H H1 → rel H1 v a → PostG mg W σ H1 rel2 Q2 (k a) → Q v H1) : PostG mg W σ H rel Q m :=
  post.seq0 fun a v H1 s r q => h a v H1 trivial s r (q.mono s)
theorem PostG.imp {m : R α} (post : PostG mg W σ H rel Q m) (h : ∀ a v H1, True → Same H H1 → rel H1 v a → Q v H1 → Q' v H1) : PostG mg W σ H rel Q' m := by
  induction m with
  | ok a => exact fun v H' s r => h a v H' trivial s r (post v H' s r)
  | exc n => exact post
  | stuck => exact post
  | ask n k ih => exact fun i hi => ih i (post i hi)
theorem PostG.seq2 {H2 : Hp} {m : R α} {k : α → R γ} (s : Same H H2) (post : PostG mg W σ H rel2 Q2 (m.bd k)) (h : ∀ a v H1, Same H2 H1 → rel H1 v a → PostG mg W σ H rel2 Q2 (k a) → Q v H1) : PostG mg W σ H2 rel Q m := by
  induction m with
  | ok a => exact fun v H' s' r => h a v H' s' r post
  | exc n => exact PostG.mono s (show PostG mg W σ H rel Q (.exc n) from post)
  | stuck => exact post.elim
  | ask n k ih => exact fun i hi => ih i (post i hi)
/-- no exception comes -/
def R.calm {α : Type} : R α → R α
  | .ok a => .ok a
  | .exc _ => .stuck
  | .stuck => .stuck
  | .ask n k => .ask n fun i => (k i).calm
theorem PostG.calm {W' : WX} {σ' : L2.St} {H2 : Hp} {m : R α} {k : α → R γ} (s : Same H H2) (post : PostG mg W σ H rel2 Q2 (m.calm.bd k)) (h : ∀ a v H1, Same H2 H1 → rel H1 v a → PostG mg W σ H rel2 Q2 (k a) → Q v H1) : PostG mg W' σ' H2 rel Q m := by
  induction m with
  | ok a => exact fun v H' s' r => h a v H' s' r post
  | exc n => exact post.elim
  | stuck => exact post.elim
  | ask n k ih => exact fun i hi => ih i (post i hi)
theorem PostG.use {o : Option α} (post : PostG mg W σ H rel Q (R.of o)) : ∃ a, o = some a ∧ ∀ v H', Same H H' → rel H' v a → Q v H' := by
  cases o with
  | none => exact post.elim
  | some a => exact ⟨a, rfl, post⟩
end
abbrev rDp (K : PySem.W.Frag) : Hp → V → PyData → Prop := fun H v d => Dp K H v d
abbrev rDs (K : PySem.W.Frag) : Hp → List V → List PyData → Prop := fun H v d => DpAll K H v d
abbrev rBo : Hp → Bool → Bool → Prop := fun _ a b => a = b
/-- readings of pure pieces -/
def tP (K : PySem.W.Frag) (mg : Str → Option Value) (W : WX) (g : Rho → R PyData) : TE := fun σ H Q => ∃ ρ, EnvR K H σ ρ ∧ PostG mg W σ H (rDp K) Q (g ρ)
def tPT (K : PySem.W.Frag) (mg : Str → Option Value) (W : WX) (g : Rho → R Bool) : TT := fun σ H Q => ∃ ρ, EnvR K H σ ρ ∧ PostG mg W σ H rBo Q (g ρ)
def tPA (K : PySem.W.Frag) (mg : Str → Option Value) (W : WX) (g : Rho → R (List PyData)) : TA := fun σ H Q => ∃ ρ, EnvR K H σ ρ ∧ PostG mg W σ H (rDs K) Q (g ρ)
def SemE (X : Cx) (e : Expr) (g : Rho → R PyData) : Prop := ∀ W, Takes X W → PE X e (tP X.K X.mg W g)
def SemT (X : Cx) (e : Expr) (g : Rho → R Bool) : Prop := ∀ W, Takes X W → PT X e (tPT X.K X.mg W g)
def SemA (X : Cx) (es : List Expr) (g : Rho → R (List PyData)) : Prop := ∀ W, Takes X W → PA X es (tPA X.K X.mg W g)

/-! ### names, constants -/
def gK (d : PyData) : Rho → R PyData := fun _ => .ok d
def gNil : Rho → R (List PyData) := fun _ => .ok []
def gCons (g : Rho → R PyData) (gs : Rho → R (List PyData)) : Rho → R (List PyData) := fun ρ => (g ρ).bd fun x => (gs ρ).bd fun xs => .ok (x :: xs)
def lineOk {α : Type} (xs : List α) (k : R PyData) : R PyData := if xs.length ≤ sizeLine then k else .stuck
def gTup (gs : Rho → R (List PyData)) : Rho → R PyData := fun ρ => (gs ρ).bd fun xs => lineOk xs (.ok (.tuple xs))
def gLst (gs : Rho → R (List PyData)) : Rho → R PyData := fun ρ => (gs ρ).bd fun xs => lineOk xs (.ok (.list xs))
def getV (i : Nat) (ρ : Rho) : R PyData := match ρ[i]? with
  | some (.d x) => .ok x
  | _ => .stuck
section
variable {X : Cx} {a b c : Expr} {ga gb gc : Rho → R PyData} {pos : Pos}
theorem sem_var {i : Nat} {x : Str} (hN : X.N[i]? = some x := by rfl) (hv : Vis X.env.scope x := by first | exact Or.inl rfl | exact Or.inr (Or.inl rfl) | exact Or.inr (Or.inr rfl))
    (hd : (x == ("__debug__" : Str)) = false := by decide) (hcd : (x == ("__classdict__" : Str)) = false := by decide) : SemE X (.Name x pos) (getV i) := fun W tk =>
  pe_imp (pe_var hN hv hd hcd) fun σ H Q ⟨ρ, env, post⟩ => by
    unfold getV at post
    split at post
    · rename_i d e
      obtain ⟨v, e1, h1⟩ := env.get e
      exact ⟨v, e1, post v H (Same.refl H) h1⟩
    · exact post.elim
theorem sem_int {i : Int} {j : Nat} : SemE X (.Constant (.int i) j pos) (gK (.int i)) := fun W tk => pe_imp pe_int fun σ H Q ⟨ρ, env, post⟩ => post _ H (Same.refl H) (.int i)
theorem sem_bl {i : Bool} {j : Nat} : SemE X (.Constant (.bool i) j pos) (gK (.bool i)) := fun W tk => pe_imp pe_bl fun σ H Q ⟨ρ, env, post⟩ => post _ H (Same.refl H) (.bl i)
theorem sem_non {j : Nat} : SemE X (.Constant .none j pos) (gK .none) := fun W tk => pe_imp pe_non fun σ H Q ⟨ρ, env, post⟩ => post _ H (Same.refl H) .non
theorem sem_str {i : Str} {j : Nat} : SemE X (.Constant (.str i) j pos) (gK (.str i)) := fun W tk => pe_imp pe_str fun σ H Q ⟨ρ, env, post⟩ => post _ H (Same.refl H) (.str i)
/-- a constant of the module -/
theorem sem_glob {x : Str} {d : PyData} {v : V} {u : Value} (hg : Gl X x) (hm : X.mg x = some u) (r : RelV v u) (h : ∀ H, Dp X.K H v d) (hd : (x == ("__debug__" : Str)) = false := by decide) : SemE X (.Name x pos) (gK d) := fun W tk =>
  pe_imp (pe_glob hg hm r hd) fun σ H Q ⟨ρ, env, post⟩ => post _ H (Same.refl H) (h H)

/-! ### lists of expressions, displays -/
variable {e : Expr} {es : List Expr} {g : Rho → R PyData} {gs : Rho → R (List PyData)}
theorem sem_nil : SemA X [] gNil := fun W tk => pa_imp pa_nil fun σ H Q ⟨ρ, env, post⟩ => post _ H (Same.refl H) .nil
theorem sem_cons (ha : SemE X e g) (hr : SemA X es gs) (hs : starEach (e :: es) X.env = (false, eval e X.env) :: starEach es X.env := by rfl) : SemA X (e :: es) (gCons g gs) := fun W tk =>
  pa_imp (pa_cons (ha W tk) (hr W tk) hs) fun σ H Q ⟨ρ, env, post⟩ => ⟨ρ, env, post.seq fun x v H1 _ s1 r1 post1 => ⟨ρ, env.same s1, post1.seq fun xs vs H2 _ s2 r2 post2 => post2 _ H2 (Same.refl H2) (.cons (dp_same s2 r1) r2)⟩⟩
theorem sem_tup {x1 : Nat} (h : SemA X es gs) : SemE X (.Tuple es x1 pos) (gTup gs) := fun W tk =>
  pe_imp (pe_tup (h W tk)) fun σ H Q ⟨ρ, env, post⟩ => ⟨ρ, env, post.seq fun xs vs H1 _ s1 r1 post1 => by
    unfold lineOk at post1
    split at post1
    · rename_i hl
      refine ⟨by rw [dpAll_length r1]; exact hl, fun p hp => post1 _ _ (same_upd hp) (.tup (SqT.of upd_same) (dpAll_same (same_upd hp) r1))⟩
    · exact post1.elim⟩
theorem sem_lst (h : SemA X es gs) : SemE X (.List es pos) (gLst gs) := fun W tk =>
  pe_imp (pe_lst (h W tk)) fun σ H Q ⟨ρ, env, post⟩ => ⟨ρ, env, post.seq fun xs vs H1 _ s1 r1 post1 => by
    unfold lineOk at post1
    split at post1
    · rename_i hl
      refine ⟨by rw [dpAll_length r1]; exact hl, fun p hp => post1 _ _ (same_upd hp) (.lst (SqL.of upd_same) (dpAll_same (same_upd hp) r1))⟩
    · exact post1.elim⟩
end
end RL

namespace RL
open PySem PySem.Spec PyProof.Rows L2

/-- an operator by data -/
def rD (K : PySem.W.Frag) (f : PyData → PyData → Option PyData) : R2 := fun x y H Q => ∃ d e r, Dp K H x d ∧ Dp K H y e ∧ f d e = some r ∧ ∀ v H', Same H H' → Dp K H' v r → Q v H'
section
variable {X : Cx}
def rCatL (K : PySem.W.Frag) : R2 := fun x y H Q => ∃ l b xs zs, x = .ref l ∧ y = .ref b ∧ SqL K H l xs ∧ SqL K H b zs ∧ xs.length + zs.length ≤ sizeLine ∧ ∀ p, H p = none → Q (.ref p) (upd H p (.lst (xs ++ zs)))
theorem op_catL : OpR X (binaryOp .Add) (rCatL X.K) := by
  intro pins s σ H x y v u Q I rx ry h
  obtain ⟨l, b, xs, zs, rfl, rfl, hH, hB, hz, q⟩ := h
  cases rx
  cases ry
  obtain ⟨its, r, ⟨⟨cls, dd, data, sl⟩, n, ho, hc, _, hd⟩, hl⟩ := I.list hH
  obtain ⟨its2, r2, ⟨⟨cls2, dd2, data2, sl2⟩, n2, ho2, hc2, _, hd2⟩, hl2⟩ := I.list hB
  simp only at hc hd hc2 hd2
  subst hc hd hc2 hd2
  have e1 := r.length
  have e2 := r2.length
  have e : its.toArray ++ its2.toArray = (its ++ its2).toArray := by simp
  refine concat_meets ⟨_, ho, rfl⟩ ⟨_, ho2, rfl⟩ PySem.noFill_list_add PySem.seq_list_add PySem.F.slot_list_add PySem.F.entry_list_add (PySem.F.args_list_add_2 _ _) (list_addW l b its.toArray its2.toArray n n2 dd dd2 sl sl2 (by simpa [← e1, ← e2] using hz)) ⟨ho, ho2, ?_⟩
  rw [e]
  exact ⟨.ref _, _, I.lnew (t' := s.toks) (r.append r2) (by rw [List.length_append]; omega), rfl, q _ I.fresh⟩

def addD : PyData → PyData → Option PyData
  | .int i, .int j => some (.int (i + j))
  | .str x, .str y => if x.length + y.length ≤ sizeLine then some (.str (x ++ y)) else none
  | .tuple xs, .tuple ys => if xs.length + ys.length ≤ sizeLine then some (.tuple (xs ++ ys)) else none
  | .list xs, .list ys => if xs.length + ys.length ≤ sizeLine then some (.list (xs ++ ys)) else none
  | _, _ => none
theorem ite_some {α : Type} {c : Prop} [Decidable c] {a r : α} (h : (if c then some a else none) = some r) : c ∧ a = r := by
  split at h
  · rename_i hc; exact ⟨hc, Option.some.inj h⟩
  · cases h
theorem op_addD : OpR X (binaryOp .Add) (rD X.K addD) := by
  intro pins s σ H x y v u Q I rx ry ⟨d, e, r, hd, he, hf, q⟩
  cases hd with
  | non => cases he <;> cases hf
  | bl b => cases he <;> cases hf
  | int i =>
    cases he with
    | int j =>
      cases hf
      exact op_add pins s σ H _ _ v u Q I rx ry ⟨i, j, rfl, rfl, q _ _ (Same.refl H) (.int _)⟩
    | _ => cases hf
  | str x =>
    cases he with
    | str y =>
      obtain ⟨hl, rfl⟩ := ite_some hf
      exact op_add_str pins s σ H _ _ v u Q I rx ry ⟨x, y, rfl, rfl, hl, q _ _ (Same.refl H) (.str _)⟩
    | _ => cases hf
  | lst hs ha =>
    cases he with
    | lst hs2 ha2 =>
      obtain ⟨hl, rfl⟩ := ite_some hf
      refine op_catL pins s σ H _ _ v u Q I rx ry ⟨_, _, _, _, rfl, rfl, hs, hs2, by rw [dpAll_length ha, dpAll_length ha2]; exact hl, fun p hp => q _ _ (same_upd hp) ?_⟩
      exact .lst (SqL.of upd_same) (dpAll_append (dpAll_same (same_upd hp) ha) (dpAll_same (same_upd hp) ha2))
    | _ => cases hf
  | tup hs ha =>
    cases he with
    | tup hs2 ha2 =>
      obtain ⟨hl, rfl⟩ := ite_some hf
      refine op_catA pins s σ H _ _ v u Q I rx ry ⟨_, _, _, _, rfl, rfl, hs, hs2, by rw [dpAll_length ha, dpAll_length ha2]; exact hl, fun e => ?_, fun e e2 => ?_, fun e e2 p hp => ?_⟩
      · subst e
        cases ha
        exact q _ _ (Same.refl H) (.tup hs2 ha2)
      · subst e2
        cases ha2
        rw [List.append_nil] at q
        exact q _ _ (Same.refl H) (.tup hs ha)
      · exact q _ _ (same_upd hp) (.tup (SqT.of upd_same) (dpAll_append (dpAll_same (same_upd hp) ha) (dpAll_same (same_upd hp) ha2)))
    | _ => cases hf
/-- ints alone -/
def ii (f : Int → Int → Option Int) : PyData → PyData → Option PyData
  | .int i, .int j => (f i j).map .int
  | _, _ => none
theorem ii_int {f : Int → Int → Option Int} {g : Value → Value → Sem Value} {C : Int → Int → Prop} {h : Int → Int → Int} (ho : OpR X g (rI C fun i j => .int (h i j))) (hf : ∀ i j k, f i j = some k → C i j ∧ k = h i j) : OpR X g (rD X.K (ii f)) := by
  intro pins s σ H x y v u Q I rx ry ⟨d, e, r, hd, he, hr, q⟩
  cases hd with
  | int i =>
    cases he with
    | int j =>
      cases z : f i j with
      | none => simp [ii, z] at hr
      | some k =>
        simp [ii, z] at hr
        subst hr
        obtain ⟨c, rfl⟩ := hf i j k z
        exact ho pins s σ H _ _ v u Q I rx ry ⟨i, j, rfl, rfl, c, q _ _ (Same.refl H) (.int _)⟩
    | _ => cases hr
  | _ => cases he <;> cases hr
def subD := ii fun i j => some (i - j)
theorem op_subD : OpR X (binaryOp .Sub) (rD X.K subD) := by
  intro pins s σ H x y v u Q I rx ry ⟨d, e, r, hd, he, hr, q⟩
  cases hd with
  | int i =>
    cases he with
    | int j =>
      cases hr
      exact op_sub pins s σ H _ _ v u Q I rx ry ⟨i, j, rfl, rfl, q _ _ (Same.refl H) (.int _)⟩
    | _ => cases hr
  | _ => cases he <;> cases hr
def fdivD := ii fun i j => if 0 < j ∧ j < 1073741824 then some (i / j) else none
theorem op_fdivD : OpR X (binaryOp .FloorDiv) (rD X.K fdivD) := ii_int op_fdiv fun i j k h => by
  obtain ⟨c, e⟩ := ite_some h
  exact ⟨c, e.symm⟩
def modD := ii fun i j => if 0 < j then some (i % j) else none
theorem op_modD : OpR X (binaryOp .Mod) (rD X.K modD) := ii_int op_mod fun i j k h => by
  obtain ⟨c, e⟩ := ite_some h
  exact ⟨c, e.symm⟩
def powD := ii fun i j => if 0 ≤ j ∧ j ≤ 1000000 ∧ i.natAbs < 2 ^ 64 then some (i ^ j.toNat) else none
theorem op_powD : OpR X (binaryOp .Pow) (rD X.K powD) := ii_int op_pow fun i j k h => by
  obtain ⟨c, e⟩ := ite_some h
  exact ⟨c, e.symm⟩
def mulD : PyData → PyData → Option PyData
  | .int i, .int j => if (-(2 ^ 64) < i ∧ i < 2 ^ 64) ∨ (-(2 ^ 64) < j ∧ j < 2 ^ 64) then some (.int (i * j)) else none
  | .tuple xs, .int k => if xs ≠ [] ∧ 2 ≤ k ∧ k ≤ 1000 ∧ xs.length ≤ 1000 then some (.tuple (List.replicate k.toNat xs).flatten) else none
  | _, _ => none
theorem op_mulD : OpR X (binaryOp .Mult) (rD X.K mulD) := by
  intro pins s σ H x y v u Q I rx ry ⟨d, e, r, hd, he, hf, q⟩
  cases hd with
  | non => cases he <;> cases hf
  | bl b => cases he <;> cases hf
  | str x => cases he <;> cases hf
  | lst hs ha => cases he <;> cases hf
  | int i =>
    cases he with
    | int j =>
      obtain ⟨hl, rfl⟩ := ite_some hf
      exact op_mul pins s σ H _ _ v u Q I rx ry ⟨i, j, rfl, rfl, hl, q _ _ (Same.refl H) (.int _)⟩
    | _ => cases hf
  | tup hs ha =>
    cases he with
    | int k =>
      obtain ⟨⟨h1, h2, h3, h4⟩, rfl⟩ := ite_some hf
      refine op_repT pins s σ H _ _ v u Q I rx ry ⟨_, k, _, rfl, rfl, hs, fun e => ?_, h2, h3, by rw [dpAll_length ha]; exact h4, fun p hp => q _ _ (same_upd hp) (.tup (SqT.of upd_same) (dpAll_rep (dpAll_same (same_upd hp) ha) _))⟩
      subst e
      cases ha
      exact h1 rfl
    | _ => cases hf
def binD : Operator → PyData → PyData → Option PyData
  | .Add => addD
  | .Sub => subD
  | .Mult => mulD
  | .FloorDiv => fdivD
  | .Mod => modD
  | .Pow => powD
  | _ => fun _ _ => none
theorem rD_none {f : PyData → PyData → Option PyData} {g : Value → Value → Sem Value} (h : f = fun _ _ => none) : OpR X g (rD X.K f) := by
  subst h
  intro pins s σ H x y v u Q I rx ry ⟨d, e, r, hd, he, hf, q⟩
  cases hf
theorem op_binD : ∀ op : Operator, OpR X (binaryOp op) (rD X.K (binD op))
  | .Add => op_addD
  | .Sub => op_subD
  | .Mult => op_mulD
  | .FloorDiv => op_fdivD
  | .Mod => op_modD
  | .Pow => op_powD
  | .MatMult | .Div | .LShift | .RShift | .BitOr | .BitXor | .BitAnd => rD_none rfl

/-! ### comparisons -/
def isS (d : PyData) : Bool := SeqAt.shaped d
def eqD (d e : PyData) : Option Bool := if isS d && isS e then some (PyData.eqv d e) else none
def neD (d e : PyData) : Option Bool := if isS d && isS e then some (!PyData.eqv d e) else none
def rDB (K : PySem.W.Frag) (f : PyData → PyData → Option Bool) : R2 := fun x y H Q => ∃ d e r, Dp K H x d ∧ Dp K H y e ∧ f d e = some r ∧ Q (.bl r) H
theorem op_eqDB (hu : X.A.units + 65 < cLine) : OpR X (compareOp .Eq) (rDB X.K eqD) := by
  intro pins s σ H x y v u Q I rx ry ⟨d, e, r, hd, he, hf, q⟩
  obtain ⟨hl, rfl⟩ := ite_some hf
  obtain ⟨h1, h2⟩ := Bool.and_eq_true_iff.mp hl
  exact op_eqD (by omega) pins s σ H _ _ v u Q I rx ry ⟨d, e, hd, he, h1, h2, q⟩
theorem op_neDB (hu : X.A.units + 65 < cLine) : OpR X (compareOp .NotEq) (rDB X.K neD) := by
  intro pins s σ H x y v u Q I rx ry ⟨d, e, r, hd, he, hf, q⟩
  obtain ⟨hl, rfl⟩ := ite_some hf
  obtain ⟨h1, h2⟩ := Bool.and_eq_true_iff.mp hl
  exact op_neD (by omega) pins s σ H _ _ v u Q I rx ry ⟨d, e, hd, he, h1, h2, q⟩
def iB (f : Int → Int → Bool) : PyData → PyData → Option Bool
  | .int i, .int j => some (f i j)
  | _, _ => none
theorem op_iB {f : Int → Int → Bool} {g : Value → Value → Sem Value} (ho : OpR X g (rI0 fun i j => .bl (f i j))) : OpR X g (rDB X.K (iB f)) := by
  intro pins s σ H x y v u Q I rx ry ⟨d, e, r, hd, he, hr, q⟩
  cases hd with
  | int i =>
    cases he with
    | int j =>
      cases hr
      exact ho pins s σ H _ _ v u Q I rx ry ⟨i, j, rfl, rfl, q⟩
    | _ => cases hr
  | _ => cases he <;> cases hr
def inD (d : PyData) : PyData → Option Bool
  | .list ds => if isS d && isS (.list ds) then some (ds.any fun z => PyData.eqv z d) else none
  | .tuple ds => if isS d && isS (.tuple ds) then some (ds.any fun z => PyData.eqv z d) else none
  | _ => none
def notInD (d e : PyData) : Option Bool := (inD d e).map (!·)
theorem op_inDB (hu : X.A.units + 65 < cLine) : OpR X (compareOp .In) (rDB X.K inD) := by
  intro pins s σ H x y v u Q I rx ry ⟨d, e, r, hd, he, hf, q⟩
  obtain ⟨as, r1⟩ := Dp.reads I d x v hd rx
  obtain ⟨bs, r2⟩ := Dp.reads I e y u he ry
  cases e with
  | list ds =>
    obtain ⟨hl, rfl⟩ := ite_some hf
    obtain ⟨sd, se⟩ := Bool.and_eq_true_iff.mp hl
    exact SeqAt.in_list_reads r2 r1 (SeqAt.canLay_of_shaped se) (SeqAt.canLay_of_shaped sd) (room_in_shaped sd hu) ⟨.bl _, H, I, rfl, q⟩
  | tuple ds =>
    obtain ⟨hl, rfl⟩ := ite_some hf
    obtain ⟨sd, se⟩ := Bool.and_eq_true_iff.mp hl
    exact SeqAt.in_tuple_reads r2 r1 (SeqAt.canLay_of_shaped se) (SeqAt.canLay_of_shaped sd) (room_in_shaped sd hu) ⟨.bl _, H, I, rfl, q⟩
  | _ => cases hf
theorem op_notInDB (hu : X.A.units + 65 < cLine) : OpR X (compareOp .NotIn) (rDB X.K notInD) := by
  intro pins s σ H x y v u Q I rx ry ⟨d, e, r, hd, he, hf, q⟩
  obtain ⟨as, r1⟩ := Dp.reads I d x v hd rx
  obtain ⟨bs, r2⟩ := Dp.reads I e y u he ry
  obtain ⟨k, hk, rfl⟩ := Option.map_eq_some_iff.mp hf
  cases e with
  | list ds =>
    obtain ⟨hl, rfl⟩ := ite_some hk
    obtain ⟨sd, se⟩ := Bool.and_eq_true_iff.mp hl
    exact SeqAt.notIn_list_reads r2 r1 (SeqAt.canLay_of_shaped se) (SeqAt.canLay_of_shaped sd) (room_in_shaped sd hu) ⟨.bl _, H, I, rfl, q⟩
  | tuple ds =>
    obtain ⟨hl, rfl⟩ := ite_some hk
    obtain ⟨sd, se⟩ := Bool.and_eq_true_iff.mp hl
    exact SeqAt.notIn_tuple_reads r2 r1 (SeqAt.canLay_of_shaped se) (SeqAt.canLay_of_shaped sd) (room_in_shaped sd hu) ⟨.bl _, H, I, rfl, q⟩
  | _ => cases hk
def cmpD : CmpOp → PyData → PyData → Option Bool
  | .Eq => eqD
  | .NotEq => neD
  | .Lt => iB fun i j => decide (i < j)
  | .LtE => iB fun i j => decide (i ≤ j)
  | .Gt => iB fun i j => decide (j < i)
  | .GtE => iB fun i j => decide (j ≤ i)
  | .In => inD
  | .NotIn => notInD
  | _ => fun _ _ => none
theorem op_cmpD (hu : X.A.units + 65 < cLine) : ∀ op : CmpOp, OpR X (compareOp op) (rDB X.K (cmpD op))
  | .Eq => op_eqDB hu
  | .NotEq => op_neDB hu
  | .Lt => op_iB op_lt
  | .LtE => op_iB op_le
  | .Gt => op_iB op_gt
  | .GtE => op_iB op_ge
  | .In => op_inDB hu
  | .NotIn => op_notInDB hu
  | .Is => fun pins s σ H x y v u Q I rx ry ⟨d, e, r, hd, he, hf, q⟩ => by cases hf
  | .IsNot => fun pins s σ H x y v u Q I rx ry ⟨d, e, r, hd, he, hf, q⟩ => by cases hf
end
end RL

namespace RL
open PySem PySem.Spec PyProof.Rows L2
section
variable {X : Cx} {a b c : Expr} {ga gb gc : Rho → R PyData} {pos : Pos}
theorem hu65 {A : Around} {k : Nat} (hr : Room k A) : A.units + 65 < cLine := by have := hr.un; omega
theorem post_of {α β γ : Type} {mg : Str → Option Value} {W : WX} {σ : L2.St} {H : Hp} {rel : Hp → β → γ → Prop} {Q : β → Hp → Prop} {o : Option α} {k : α → R γ} (h : PostG mg W σ H rel Q ((R.of o).bd k)) : ∃ a, o = some a ∧ PostG mg W σ H rel Q (k a) := by
  cases o with
  | none => exact h.elim
  | some a => exact ⟨a, rfl, h⟩

/-! ### operators -/
def gBin (op : Operator) (ga gb : Rho → R PyData) : Rho → R PyData := fun ρ => (ga ρ).bd fun x => (gb ρ).bd fun y => R.of (binD op x y)
def negD : PyData → R PyData
  | .int i => .ok (.int (-i))
  | _ => .stuck
def gNeg (ga : Rho → R PyData) : Rho → R PyData := fun ρ => (ga ρ).bd negD
theorem sem_bin {op : Operator} (ha : SemE X a ga) (hb : SemE X b gb) : SemE X (.BinOp a op b pos) (gBin op ga gb) := fun W tk =>
  pe_imp (pe_op (op_binD op) (ha W tk) (hb W tk)) fun σ H Q ⟨ρ, env, post⟩ => ⟨ρ, env, post.seq fun x v H1 _ s1 r1 post1 => ⟨ρ, env.same s1, post1.seq fun y u H2 _ s2 r2 post2 => by
    obtain ⟨r, e, q⟩ := post2.use
    exact ⟨x, y, r, dp_same s2 r1, r2, e, q⟩⟩⟩
theorem sem_neg (ha : SemE X a ga) : SemE X (.UnaryOp .USub a pos) (gNeg ga) := fun W tk =>
  pe_imp (pe_un un_neg (ha W tk)) fun σ H Q ⟨ρ, env, post⟩ => ⟨ρ, env, post.seq fun x v H1 _ s1 r1 post1 => by
    cases r1 with
    | int i => exact ⟨i, rfl, post1 _ _ (Same.refl H1) (.int _)⟩
    | _ => exact post1.elim⟩
/-- a comparison -/
def gCmp (op : CmpOp) (ga gb : Rho → R PyData) : Rho → R Bool := fun ρ => (ga ρ).bd fun x => (gb ρ).bd fun y => R.of (cmpD op x y)
def asV (g : Rho → R Bool) : Rho → R PyData := fun ρ => (g ρ).bd fun b => .ok (.bool b)
theorem sem_cmp {op : CmpOp} {k : Nat} (hr : Room k X.A) (ha : SemE X a ga) (hb : SemE X b gb) (hm : behindInMarks op b = false := by rfl) : SemE X (.Compare a [op] [b] pos) (asV (gCmp op ga gb)) := fun W tk =>
  pe_imp (pe_cmpR (op_cmpD (hu65 hr) op) (ha W tk) (hb W tk) hm) fun σ H Q ⟨ρ, env, post⟩ => by
    have post' : PostG X.mg W σ H (rDp X.K) Q ((ga ρ).bd fun x => (gb ρ).bd fun y => (R.of (cmpD op x y)).bd fun b => .ok (.bool b)) := by
      have e : asV (gCmp op ga gb) ρ = ((ga ρ).bd fun x => (gb ρ).bd fun y => (R.of (cmpD op x y)).bd fun b => .ok (.bool b)) := by
        unfold asV gCmp
        simp only [R.bd_bd]
      rw [← e]; exact post
    exact ⟨ρ, env, post'.seq fun x v H1 _ s1 r1 post1 => ⟨ρ, env.same s1, post1.seq fun y u H2 _ s2 r2 post2 => by
      obtain ⟨r, e, q⟩ := post_of post2
      exact ⟨x, y, r, dp_same s2 r1, r2, e, q _ _ (Same.refl H2) (.bl _)⟩⟩⟩
theorem sem_cmpT {op : CmpOp} {k : Nat} (hr : Room k X.A) (ha : SemE X a ga) (hb : SemE X b gb) (hm : behindInMarks op b = false := by rfl) : SemT X (.Compare a [op] [b] pos) (gCmp op ga gb) := fun W tk =>
  pt_imp (pt_cmpR (op_cmpD (hu65 hr) op) (ha W tk) (hb W tk) hm) fun σ H Q ⟨ρ, env, post⟩ =>
    ⟨ρ, env, post.seq fun x v H1 _ s1 r1 post1 => ⟨ρ, env.same s1, post1.seq fun y u H2 _ s2 r2 post2 => by
      obtain ⟨r, e, q⟩ := post2.use
      exact ⟨x, y, r, dp_same s2 r1, r2, e, r, rfl, q _ _ (Same.refl H2) rfl⟩⟩⟩
/-- x < y < z -/
def gChain (op op' : CmpOp) (ga gb gc : Rho → R PyData) : Rho → R Bool := fun ρ => (ga ρ).bd fun x => (gb ρ).bd fun y => (R.of (cmpD op x y)).bd fun k => if k = true then (gc ρ).bd fun z => R.of (cmpD op' y z) else .ok false
theorem chain_rd {op op' : CmpOp} {W : WX} (σ : L2.St) (H : Hp) (ρ : Rho) (Q : VK) (env : EnvR X.K H σ ρ) (post : PostG X.mg W σ H rBo (fun b H' => Q (.bl b) H') (gChain op op' ga gb gc ρ)) :
    tChain (rDB X.K (cmpD op)) (rDB X.K (cmpD op')) (tP X.K X.mg W ga) (tP X.K X.mg W gb) (tP X.K X.mg W gc) σ H Q :=
  ⟨ρ, env, post.seq fun x v H1 _ s1 r1 post1 => ⟨ρ, env.same s1, post1.seq fun y u H2 _ s2 r2 post2 => by
    obtain ⟨r, e, q⟩ := post_of post2
    refine ⟨x, y, r, dp_same s2 r1, r2, e, r, rfl, ?_⟩
    cases r with
    | true =>
      rw [if_pos rfl] at q ⊢
      exact ⟨ρ, (env.same s1).same s2, q.seq fun z t H3 _ s3 r3 post3 => by
        obtain ⟨r', e', q'⟩ := post3.use
        exact ⟨y, z, r', dp_same s3 r2, r3, e', q' _ _ (Same.refl H3) rfl⟩⟩
    | false =>
      rw [if_neg Bool.false_ne_true] at q ⊢
      exact q _ _ (Same.refl H2) rfl⟩⟩
theorem post_asV {W : WX} {σ : L2.St} {H : Hp} {Q : VK} {m : R Bool} (post : PostG X.mg W σ H (rDp X.K) Q (m.bd fun b => .ok (.bool b))) : PostG X.mg W σ H rBo (fun b H' => Q (.bl b) H') m :=
  post.seq fun b b' H1 _ s1 r1 post1 => by
    subst r1
    exact post1 _ _ (Same.refl H1) (.bl _)
theorem sem_chain {op op' : CmpOp} {k : Nat} (hr : Room k X.A) (ha : SemE X a ga) (hb : SemE X b gb) (hc : SemE X c gc) (hm : lastMarks [op, op'] [b, c] = false := by with_unfolding_all rfl) : SemE X (.Compare a [op, op'] [b, c] pos) (asV (gChain op op' ga gb gc)) := fun W tk =>
  pe_imp (pe_chain (op_cmpD (hu65 hr) op) (op_cmpD (hu65 hr) op') (ha W tk) (hb W tk) (hc W tk) hm) fun σ H Q ⟨ρ, env, post⟩ => chain_rd σ H ρ Q env (post_asV post)
theorem sem_chainT {op op' : CmpOp} {k : Nat} (hr : Room k X.A) (ha : SemE X a ga) (hb : SemE X b gb) (hc : SemE X c gc) (hm : lastMarks [op, op'] [b, c] = false := by with_unfolding_all rfl) : SemT X (.Compare a [op, op'] [b, c] pos) (gChain op op' ga gb gc) := fun W tk =>
  pt_imp (pt_chain (op_cmpD (hu65 hr) op) (op_cmpD (hu65 hr) op') (ha W tk) (hb W tk) (hc W tk) hm) fun σ H Q ⟨ρ, env, post⟩ => chain_rd σ H ρ _ env (post.imp fun b b' H1 _ _ r q => ⟨b', rfl, q⟩)
/-- is None, is not None -/
def isNone : PyData → Bool
  | .none => true
  | _ => false
theorem isNone_rel {K : PySem.W.Frag} {H : Hp} {v : V} {d : PyData} (h : Dp K H v d) : decide (v = .non) = isNone d := by
  cases h <;> rfl
def gIsN (ga : Rho → R PyData) : Rho → R PyData := fun ρ => (ga ρ).bd fun x => .ok (.bool (isNone x))
def gNotN (ga : Rho → R PyData) : Rho → R PyData := fun ρ => (ga ρ).bd fun x => .ok (.bool (!isNone x))
theorem sem_isN {j : Nat} {pos' : Pos} (ha : SemE X a ga) : SemE X (.Compare a [.Is] [.Constant .none j pos'] pos) (gIsN ga) := fun W tk =>
  pe_imp (pe_cmp (pc_isN (ha W tk)) rfl) fun σ H Q ⟨ρ, env, post⟩ => ⟨ρ, env, post.seq fun x v H1 _ s1 r1 post1 => by
    rw [isNone_rel r1]
    exact post1 _ _ (Same.refl H1) (.bl _)⟩
theorem sem_notN {j : Nat} {pos' : Pos} (ha : SemE X a ga) : SemE X (.Compare a [.IsNot] [.Constant .none j pos'] pos) (gNotN ga) := fun W tk =>
  pe_imp (pe_cmp (pc_notN (ha W tk)) rfl) fun σ H Q ⟨ρ, env, post⟩ => ⟨ρ, env, post.seq fun x v H1 _ s1 r1 post1 => by
    rw [isNone_rel r1]
    exact post1 _ _ (Same.refl H1) (.bl _)⟩
/-- is True, is not False .. of bools -/
def bbD (f : Bool → Bool → Bool) : PyData → PyData → Option Bool
  | .bool i, .bool j => some (f i j)
  | _, _ => none
def gBB (f : Bool → Bool → Bool) (ga gb : Rho → R PyData) : Rho → R PyData := fun ρ => (ga ρ).bd fun x => (gb ρ).bd fun y => R.of ((bbD f x y).map .bool)
theorem sem_isB (ha : SemE X a ga) (hb : SemE X b gb) (hm : behindInMarks .Is b = false := by rfl) : SemE X (.Compare a [.Is] [b] pos) (gBB (fun i j => decide (i = j)) ga gb) := fun W tk =>
  pe_imp (pe_cmpR op_isBl (ha W tk) (hb W tk) hm) fun σ H Q ⟨ρ, env, post⟩ => ⟨ρ, env, post.seq fun x v H1 _ s1 r1 post1 => ⟨ρ, env.same s1, post1.seq fun y u H2 _ s2 r2 post2 => by
    obtain ⟨r, e, q⟩ := post2.use
    obtain ⟨k, hk, rfl⟩ := Option.map_eq_some_iff.mp e
    cases r1 with
    | bl i => cases r2 with
      | bl j => cases hk; exact ⟨_, _, rfl, rfl, q _ _ (Same.refl H2) (.bl _)⟩
      | _ => cases hk
    | _ => cases r2 <;> cases hk⟩⟩
theorem sem_isnotB (ha : SemE X a ga) (hb : SemE X b gb) (hm : behindInMarks .IsNot b = false := by rfl) : SemE X (.Compare a [.IsNot] [b] pos) (gBB (fun i j => !decide (i = j)) ga gb) := fun W tk =>
  pe_imp (pe_cmpR op_notBl (ha W tk) (hb W tk) hm) fun σ H Q ⟨ρ, env, post⟩ => ⟨ρ, env, post.seq fun x v H1 _ s1 r1 post1 => ⟨ρ, env.same s1, post1.seq fun y u H2 _ s2 r2 post2 => by
    obtain ⟨r, e, q⟩ := post2.use
    obtain ⟨k, hk, rfl⟩ := Option.map_eq_some_iff.mp e
    cases r1 with
    | bl i => cases r2 with
      | bl j => cases hk; exact ⟨_, _, rfl, rfl, q _ _ (Same.refl H2) (.bl _)⟩
      | _ => cases hk
    | _ => cases r2 <;> cases hk⟩⟩

/-! ### truth -/
def asB : PyData → Option Bool
  | .bool b => some b
  | _ => none
def gTest (g : Rho → R PyData) : Rho → R Bool := fun ρ => (g ρ).bd fun x => R.of (asB x)
theorem sem_valT (ha : SemE X a ga) (he : ∀ whole, isTrue a X.env whole = (do let v ← whole; standAt a.pos; holding [v] (truthy v)) := by intro _; rfl) : SemT X a (gTest ga) := fun W tk =>
  pt_imp (pt_val (ha W tk) he) fun σ H Q ⟨ρ, env, post⟩ => ⟨ρ, env, post.seq fun x v H1 _ s1 r1 post1 => by
    obtain ⟨r, e, q⟩ := post1.use
    cases r1 with
    | bl i => cases e; exact ⟨_, rfl, q _ _ (Same.refl H1) rfl⟩
    | _ => cases e⟩
variable {ta tb : Rho → R Bool} {rest : List Expr}
def gNotT (ta : Rho → R Bool) : Rho → R Bool := fun ρ => (ta ρ).bd fun x => .ok (!x)
def gNot (ga : Rho → R PyData) : Rho → R PyData := fun ρ => (ga ρ).bd fun x => R.of ((asB x).map fun b => .bool (!b))
def gIf (ta : Rho → R Bool) (ga gb : Rho → R PyData) : Rho → R PyData := fun ρ => (ta ρ).bd fun c => if c = true then ga ρ else gb ρ
theorem sem_notT (ha : SemT X a ta) : SemT X (.UnaryOp .Not a pos) (gNotT ta) := fun W tk =>
  pt_imp (pt_not (ha W tk)) fun σ H Q ⟨ρ, env, post⟩ => ⟨ρ, env, post.seq fun x v H1 _ s1 r1 post1 => by
    subst r1
    exact post1 _ _ (Same.refl H1) rfl⟩
theorem sem_not (ha : SemE X a ga) : SemE X (.UnaryOp .Not a pos) (gNot ga) := fun W tk =>
  pe_imp (pe_not (ha W tk)) fun σ H Q ⟨ρ, env, post⟩ => ⟨ρ, env, post.seq fun x v H1 _ s1 r1 post1 => by
    obtain ⟨r, e, q⟩ := post1.use
    cases r1 with
    | bl i => cases e; exact ⟨_, rfl, q _ _ (Same.refl H1) (.bl _)⟩
    | _ => cases e⟩
def SemW (X : Cx) (e : Expr) (g : Rho → R Bool) : Prop := ∀ W, Takes X W → PW X e (tPT X.K X.mg W g)
theorem pw_imp {X : Cx} {e : Expr} {t t' : TT} (h : PW X e t) (i : ∀ σ H Q, t' σ H Q → t σ H Q) : PW X e t' := ⟨fun wh pins s σ H Q I w => h.run wh pins s σ H Q I (i _ _ _ w)⟩
theorem sem_w (h : SemW X a ta) : SemT X a ta := fun W tk => (h W tk).pt
theorem sem_and1 (h : SemT X a ta) : SemW X (.BoolOp .And [a] pos) ta := fun W tk => pw_and1 (h W tk)
theorem sem_or1 (h : SemT X a ta) : SemW X (.BoolOp .Or [a] pos) ta := fun W tk => pw_or1 (h W tk)
def gAnd (ta tb : Rho → R Bool) : Rho → R Bool := fun ρ => (ta ρ).bd fun c => if c = true then tb ρ else .ok false
def gOr (ta tb : Rho → R Bool) : Rho → R Bool := fun ρ => (ta ρ).bd fun c => if c = true then .ok true else tb ρ
theorem sem_andW (ha : SemT X a ta) (hb : SemW X (.BoolOp .And (b :: rest) pos) tb) : SemW X (.BoolOp .And (a :: b :: rest) pos) (gAnd ta tb) := fun W tk =>
  pw_imp (pw_and (ha W tk) (hb W tk)) fun σ H Q ⟨ρ, env, post⟩ => ⟨ρ, env, post.seq fun x v H1 _ s1 r1 post1 => by
    subst r1
    cases v with
    | true => rw [if_pos rfl] at post1 ⊢; exact ⟨ρ, env.same s1, post1⟩
    | false => rw [if_neg Bool.false_ne_true] at post1 ⊢; exact post1 _ _ (Same.refl H1) rfl⟩
theorem sem_orW (ha : SemT X a ta) (hb : SemW X (.BoolOp .Or (b :: rest) pos) tb) : SemW X (.BoolOp .Or (a :: b :: rest) pos) (gOr ta tb) := fun W tk =>
  pw_imp (pw_or (ha W tk) (hb W tk)) fun σ H Q ⟨ρ, env, post⟩ => ⟨ρ, env, post.seq fun x v H1 _ s1 r1 post1 => by
    subst r1
    cases v with
    | true => rw [if_pos rfl] at post1 ⊢; exact post1 _ _ (Same.refl H1) rfl
    | false => rw [if_neg Bool.false_ne_true] at post1 ⊢; exact ⟨ρ, env.same s1, post1⟩⟩
/-- .. as values -/
theorem sem_one {op : BoolOp} (h : SemE X a ga) : SemE X (.BoolOp op [a] pos) ga := fun W tk => pe_one (h W tk)
def gAndV (ga gb : Rho → R PyData) : Rho → R PyData := fun ρ => (ga ρ).bd fun x => (R.of (asB x)).bd fun c => if c = true then gb ρ else .ok (.bool false)
def gOrV (ga gb : Rho → R PyData) : Rho → R PyData := fun ρ => (ga ρ).bd fun x => (R.of (asB x)).bd fun c => if c = true then .ok (.bool true) else gb ρ
theorem sem_and (ha : SemE X a ga) (hb : SemE X (.BoolOp .And (b :: rest) pos) gb) : SemE X (.BoolOp .And (a :: b :: rest) pos) (gAndV ga gb) := fun W tk =>
  pe_imp (pe_and (ha W tk) (hb W tk)) fun σ H Q ⟨ρ, env, post⟩ => ⟨ρ, env, post.seq fun x v H1 _ s1 r1 post1 => by
    obtain ⟨r, e, q⟩ := post_of post1
    cases r1 with
    | bl i =>
      cases e
      refine ⟨r, rfl, ?_⟩
      cases r with
      | true => rw [if_pos rfl] at q ⊢; exact ⟨ρ, env.same s1, q⟩
      | false => rw [if_neg Bool.false_ne_true] at q ⊢; exact q _ _ (Same.refl H1) (.bl _)
    | _ => cases e⟩
theorem sem_or (ha : SemE X a ga) (hb : SemE X (.BoolOp .Or (b :: rest) pos) gb) : SemE X (.BoolOp .Or (a :: b :: rest) pos) (gOrV ga gb) := fun W tk =>
  pe_imp (pe_or (ha W tk) (hb W tk)) fun σ H Q ⟨ρ, env, post⟩ => ⟨ρ, env, post.seq fun x v H1 _ s1 r1 post1 => by
    obtain ⟨r, e, q⟩ := post_of post1
    cases r1 with
    | bl i =>
      cases e
      refine ⟨r, rfl, ?_⟩
      cases r with
      | true => rw [if_pos rfl] at q ⊢; exact q _ _ (Same.refl H1) (.bl _)
      | false => rw [if_neg Bool.false_ne_true] at q ⊢; exact ⟨ρ, env.same s1, q⟩
    | _ => cases e⟩
theorem sem_if {t : Expr} (ht : SemT X t ta) (ha : SemE X a ga) (hb : SemE X b gb) : SemE X (.IfExp t a b pos) (gIf ta ga gb) := fun W tk =>
  pe_imp (pe_ifExp (ht W tk) (ha W tk) (hb W tk)) fun σ H Q ⟨ρ, env, post⟩ => ⟨ρ, env, post.seq fun x v H1 _ s1 r1 post1 => by
    subst r1
    cases v with
    | true => rw [if_pos rfl] at post1 ⊢; exact ⟨ρ, env.same s1, post1⟩
    | false => rw [if_neg Bool.false_ne_true] at post1 ⊢; exact ⟨ρ, env.same s1, post1⟩⟩

/-! ### items, slices -/
def idxD : PyData → PyData → Option PyData
  | .list ds, .int i => atI ds i
  | .tuple ds, .int i => atI ds i
  | _, _ => none
theorem atI_dp {K : PySem.W.Frag} {H : Hp} {vs : List V} {ds : List PyData} {i : Int} {d : PyData} (h : DpAll K H vs ds) (e : atI ds i = some d) : ∃ v, atI vs i = some v ∧ Dp K H v d := by
  unfold atI at e ⊢
  rw [dpAll_length h]
  cases z : ixN ds.length i with
  | none => rw [z] at e; cases e
  | some j =>
    rw [z] at e
    obtain ⟨v, h1, h2⟩ := dpAll_get h (show ds[j]? = some d from e)
    exact ⟨v, h1, h2⟩
theorem ix_D : IxR X (rD X.K idxD) := by
  intro value slice pins s σ H x y v u Q I rx ry ⟨d, e, r, hd, he, hr, q⟩ hs
  cases hd with
  | lst hl ha =>
    cases he with
    | int i =>
      obtain ⟨v', e1, h1⟩ := atI_dp ha (show atI _ i = some r from hr)
      exact ix_list value slice pins s σ H _ _ v u Q I rx ry ⟨_, _, i, v', rfl, rfl, hl, e1, q _ _ (Same.refl H) h1⟩ hs
    | _ => cases hr
  | tup hl ha =>
    cases he with
    | int i =>
      obtain ⟨v', e1, h1⟩ := atI_dp ha (show atI _ i = some r from hr)
      exact ix_tup value slice pins s σ H _ _ v u Q I rx ry ⟨_, _, i, v', rfl, rfl, hl, e1, q _ _ (Same.refl H) h1⟩ hs
    | _ => cases hr
  | _ => cases he <;> cases hr
def gIx (ga gb : Rho → R PyData) : Rho → R PyData := fun ρ => (ga ρ).bd fun x => (gb ρ).bd fun y => R.of (idxD x y)
theorem sem_ix (ha : SemE X a ga) (hb : SemE X b gb) (hs : PlainIx b := by exact fun _ _ => rfl) : SemE X (.Subscript a b pos) (gIx ga gb) := fun W tk =>
  pe_imp (pe_ix ix_D (ha W tk) (hb W tk) hs) fun σ H Q ⟨ρ, env, post⟩ => ⟨ρ, env, post.seq fun x v H1 _ s1 r1 post1 => ⟨ρ, env.same s1, post1.seq fun y u H2 _ s2 r2 post2 => by
    obtain ⟨r, e, q⟩ := post2.use
    exact ⟨x, y, r, dp_same s2 r1, r2, e, q⟩⟩⟩
def SemO (X : Cx) (e : Option Expr) (g : Rho → R (Option Int)) : Prop := ∀ W, Takes X W → PO X e fun σ H Q => ∃ ρ, EnvR X.K H σ ρ ∧ PostG X.mg W σ H (fun _ (a b : Option Int) => a = b) Q (g ρ)
def gON : Rho → R (Option Int) := fun _ => .ok none
theorem sem_none : SemO X none gON := fun W tk => ⟨fun pins s σ H Q I ⟨ρ, env, post⟩ => po_none.run pins s σ H Q I (post none H (Same.refl H) rfl)⟩
def asI : PyData → Option Int
  | .int i => some i
  | _ => none
def gOS (ga : Rho → R PyData) : Rho → R (Option Int) := fun ρ => (ga ρ).bd fun x => (R.of (asI x)).bd fun i => .ok (some i)
theorem sem_some (ha : SemE X a ga) : SemO X (some a) (gOS ga) := fun W tk => ⟨fun pins s σ H Q I ⟨ρ, env, post⟩ => (po_some (ha W tk)).run pins s σ H Q I
  ⟨ρ, env, post.seq fun x v H1 _ s1 r1 post1 => by
    obtain ⟨r, e, q⟩ := post_of post1
    cases r1 with
    | int i => cases e; exact ⟨_, rfl, q _ _ (Same.refl H1) rfl⟩
    | _ => cases e⟩⟩
def cutL {α : Type} (xs : List α) (lo hi : Option Int) : List α := (xs.drop (HT.sIx xs.length 0 lo)).take (HT.sIx xs.length xs.length hi - HT.sIx xs.length 0 lo)
def sliceD (lo hi : Option Int) : PyData → Option PyData
  | .list ds => some (.list (cutL ds lo hi))
  | .tuple ds => some (.tuple (cutL ds lo hi))
  | .str z => if z.length ≤ sizeLine then some (.str (cutS z lo hi)) else none
  | _ => none
theorem cut_dp {K : PySem.W.Frag} {H : Hp} {vs : List V} {ds : List PyData} (h : DpAll K H vs ds) (lo hi : Option Int) : DpAll K H (cutV vs lo hi) (cutL ds lo hi) := by
  unfold cutV cutL
  rw [dpAll_length h]
  exact dpAll_take _ (dpAll_drop _ h)
def rSlD (K : PySem.W.Frag) : V → Option Int → Option Int → Hp → VK → Prop := fun x lo hi H Q => ∃ d r, Dp K H x d ∧ sliceD lo hi d = some r ∧ ∀ v H', Same H H' → Dp K H' v r → Q v H'
theorem sl_D : SlR X (rSlD X.K) := by
  intro pins s σ H x v vl vu lo hi sl Q I rx hs pl pu ⟨d, r, hd, hr, q⟩
  cases hd with
  | lst hl ha =>
    cases hr
    exact sl_list pins s σ H _ v vl vu lo hi sl Q I rx hs pl pu ⟨_, _, rfl, hl, fun p hp => q _ _ (same_upd hp) (.lst (SqL.of upd_same) (cut_dp (dpAll_same (same_upd hp) ha) lo hi))⟩
  | @tup a' xs' ds' hl ha =>
    cases hr
    refine sl_tupA pins s σ H _ v vl vu lo hi sl Q I rx hs pl pu ⟨_, _, rfl, hl, fun e => ?_, fun e p hp => q _ _ (same_upd hp) (.tup (SqT.of upd_same) (cut_dp (dpAll_same (same_upd hp) ha) lo hi))⟩
    refine q _ _ (Same.refl H) (.tup hl ?_)
    have e2 : cutL ds' lo hi = ds' := by
      unfold cutL
      rw [← dpAll_length ha, e.1, e.2, List.drop_zero, Nat.sub_zero, dpAll_length ha, List.take_length]
    rw [e2]
    exact ha
  | str z =>
    obtain ⟨hl, rfl⟩ := ite_some hr
    exact sl_str pins s σ H _ v vl vu lo hi sl Q I rx hs pl pu ⟨z, rfl, hl, q _ _ (Same.refl H) (.str _)⟩
  | _ => cases hr
def gSl (ga : Rho → R PyData) (gl gh : Rho → R (Option Int)) : Rho → R PyData := fun ρ => (ga ρ).bd fun x => (gl ρ).bd fun l => (gh ρ).bd fun h => R.of (sliceD l h x)
theorem sem_slice {lo hi : Option Expr} {gl gh : Rho → R (Option Int)} {p2 : Pos} (ha : SemE X a ga) (hl : SemO X lo gl) (hh : SemO X hi gh) :
    SemE X (.Subscript a (.Slice lo hi none p2) pos) (gSl ga gl gh) := fun W tk =>
  pe_imp (pe_slice sl_D (ha W tk) (hl W tk) (hh W tk)) fun σ H Q ⟨ρ, env, post⟩ => ⟨ρ, env, post.seq fun x v H1 _ s1 r1 post1 => ⟨ρ, env.same s1, post1.seq fun l l' H2 _ s2 r2 post2 => ⟨ρ, (env.same s1).same s2, post2.seq fun h h' H3 _ s3 r3 post3 => by
    subst r2 r3
    obtain ⟨r, e, q⟩ := post3.use
    exact ⟨x, r, dp_same (s2.trans s3) r1, e, q⟩⟩⟩⟩

/-! ### calls of built-ins -/
def rDC (K : PySem.W.Frag) (F : List PyData → Option PyData) : List V → Hp → VK → Prop := fun xs H Q => ∃ ds r, DpAll K H xs ds ∧ F ds = some r ∧ ∀ v H', Same H H' → Dp K H' v r → Q v H'
variable {e : Expr} {es : List Expr} {gs : Rho → R (List PyData)} {F : List PyData → Option PyData}
def gBlt (F : List PyData → Option PyData) (gs : Rho → R (List PyData)) : Rho → R PyData := fun ρ => (gs ρ).bd fun xs => R.of (F xs)
theorem sem_blt {id : String} {x : Str} {p : Pos} (hc : CallR X (.builtin id) (rDC X.K F)) (hg : Gl X x) (hm : X.mg x = none) (hv : bootBuiltins x = some (.builtin id)) (ha : SemA X (e :: es) gs) (hn : x ≠ "__name__" := by decide) (hdb : (x == ("__debug__" : Str)) = false := by decide)
    (he : starEach (e :: es) X.env = (false, eval e X.env) :: starEach es X.env := by rfl) (hpl : (backTo pos (starEach es X.env)).any (·.1) = false := by rfl) : SemE X (.Call (.Name x p) (e :: es) [] pos) (gBlt F gs) := fun W tk =>
  pe_imp (pe_callB hc hg hm hv (ha W tk) hn hdb he hpl) fun σ H Q ⟨ρ, env, post⟩ => ⟨ρ, env, post.seq fun xs vs H1 _ s1 r1 post1 => by
    obtain ⟨r, e, q⟩ := post1.use
    exact ⟨xs, r, r1, e, q⟩⟩
theorem sem_ty {T : String} {x : Str} {p : Pos} (hc : CallR X (.type T) (rDC X.K F)) (hg : Gl X x) (hm : X.mg x = none) (hv : bootBuiltins x = some (.type T)) (ha : SemA X (e :: es) gs) (hn : x ≠ "__name__" := by decide) (hdb : (x == ("__debug__" : Str)) = false := by decide)
    (he : starEach (e :: es) X.env = (false, eval e X.env) :: starEach es X.env := by rfl) (hpl : (backTo pos (starEach es X.env)).any (·.1) = false := by rfl) : SemE X (.Call (.Name x p) (e :: es) [] pos) (gBlt F gs) := fun W tk =>
  pe_imp (pe_callTy hc hg hm hv (ha W tk) hn hdb he hpl) fun σ H Q ⟨ρ, env, post⟩ => ⟨ρ, env, post.seq fun xs vs H1 _ s1 r1 post1 => by
    obtain ⟨r, e, q⟩ := post1.use
    exact ⟨xs, r, r1, e, q⟩⟩
theorem dpAll1 {K : PySem.W.Frag} {H : Hp} {vs : List V} {d : PyData} (h : DpAll K H vs [d]) : ∃ v, vs = [v] ∧ Dp K H v d := by
  cases h with
  | cons a r => cases r; exact ⟨_, rfl, a⟩
theorem dpAll2 {K : PySem.W.Frag} {H : Hp} {vs : List V} {d e : PyData} (h : DpAll K H vs [d, e]) : ∃ v u, vs = [v, u] ∧ Dp K H v d ∧ Dp K H u e := by
  cases h with
  | cons a r => obtain ⟨u, rfl, b⟩ := dpAll1 r; exact ⟨_, _, rfl, a, b⟩
def lenD : List PyData → Option PyData
  | [.str x] => if x.length ≤ sizeLine then some (.int x.length) else none
  | [.list xs] => some (.int xs.length)
  | [.tuple xs] => some (.int xs.length)
  | _ => none
theorem call_lenD : CallR X (.builtin "len") (rDC X.K lenD) := by
  intro pins s σ H xs us Q I r ⟨ds, d, hd, hF, q⟩
  match ds, hF with
  | [.str x], hF =>
    obtain ⟨v, rfl, h1⟩ := dpAll1 hd
    cases h1
    obtain ⟨hl, rfl⟩ := ite_some hF
    exact call_len pins s σ H _ us Q I r ⟨_, x.length, rfl, ⟨hl, rfl⟩, q _ _ (Same.refl H) (.int _)⟩
  | [.list ys], hF =>
    obtain ⟨v, rfl, h1⟩ := dpAll1 hd
    cases hF
    cases h1 with
    | lst hs ha => exact call_len pins s σ H _ us Q I r ⟨_, ys.length, rfl, .inl ⟨_, hs, (dpAll_length ha).symm⟩, q _ _ (Same.refl H) (.int _)⟩
  | [.tuple ys], hF =>
    obtain ⟨v, rfl, h1⟩ := dpAll1 hd
    cases hF
    cases h1 with
    | tup hs ha => exact call_len pins s σ H _ us Q I r ⟨_, ys.length, rfl, .inr ⟨_, hs, (dpAll_length ha).symm⟩, q _ _ (Same.refl H) (.int _)⟩
def ints2 (f : Int → Int → Int) : List PyData → Option PyData
  | [.int i, .int j] => some (.int (f i j))
  | _ => none
def minI (i j : Int) : Int := if j < i then j else i
def maxI (i j : Int) : Int := if j > i then j else i
theorem call_minD (hc : X.calm = true) : CallR X (.builtin "min") (rDC X.K (ints2 minI)) := by
  intro pins s σ H xs us Q I r ⟨ds, d, hd, hF, q⟩
  match ds, hF with
  | [.int i, .int j], hF =>
    obtain ⟨v, u, rfl, h1, h2⟩ := dpAll2 hd
    cases h1
    cases h2
    cases hF
    exact call_min2 hc pins s σ H _ us Q I r ⟨i, j, rfl, q _ _ (Same.refl H) (.int _)⟩
theorem call_maxD (hc : X.calm = true) : CallR X (.builtin "max") (rDC X.K (ints2 maxI)) := by
  intro pins s σ H xs us Q I r ⟨ds, d, hd, hF, q⟩
  match ds, hF with
  | [.int i, .int j], hF =>
    obtain ⟨v, u, rfl, h1, h2⟩ := dpAll2 hd
    cases h1
    cases h2
    cases hF
    exact call_max2 hc pins s σ H _ us Q I r ⟨i, j, rfl, q _ _ (Same.refl H) (.int _)⟩
def absD : List PyData → Option PyData
  | [.int i] => some (.int (if i < 0 then -i else i))
  | _ => none
theorem call_absD : CallR X (.builtin "abs") (rDC X.K absD) := by
  intro pins s σ H xs us Q I r ⟨ds, d, hd, hF, q⟩
  match ds, hF with
  | [.int i], hF =>
    obtain ⟨v, rfl, h1⟩ := dpAll1 hd
    cases h1
    cases hF
    exact call_abs pins s σ H _ us Q I r ⟨i, rfl, q _ _ (Same.refl H) (.int _)⟩
def intD : List PyData → Option PyData
  | [.int i] => some (.int i)
  | [.bool b] => some (.int (if b then 1 else 0))
  | _ => none
theorem call_intD : CallR X (.type "int") (rDC X.K intD) := by
  intro pins s σ H xs us Q I r ⟨ds, d, hd, hF, q⟩
  match ds, hF with
  | [.int i], hF =>
    obtain ⟨v, rfl, h1⟩ := dpAll1 hd
    cases h1
    cases hF
    exact call_int1 pins s σ H _ us Q I r (.inl ⟨i, rfl, q _ _ (Same.refl H) (.int _)⟩)
  | [.bool b], hF =>
    obtain ⟨v, rfl, h1⟩ := dpAll1 hd
    cases h1
    cases hF
    exact call_int1 pins s σ H _ us Q I r (.inr ⟨b, rfl, q _ _ (Same.refl H) (.int _)⟩)
def boolD : List PyData → Option PyData
  | [.int i] => some (.bool (i != 0))
  | [.bool b] => some (.bool b)
  | _ => none
theorem call_boolD : CallR X (.type "bool") (rDC X.K boolD) := by
  intro pins s σ H xs us Q I r ⟨ds, d, hd, hF, q⟩
  match ds, hF with
  | [.int i], hF =>
    obtain ⟨v, rfl, h1⟩ := dpAll1 hd
    cases h1
    cases hF
    exact call_bool1 pins s σ H _ us Q I r (.inl ⟨i, rfl, q _ _ (Same.refl H) (.bl _)⟩)
  | [.bool b], hF =>
    obtain ⟨v, rfl, h1⟩ := dpAll1 hd
    cases h1
    cases hF
    exact call_bool1 pins s σ H _ us Q I r (.inr ⟨b, rfl, q _ _ (Same.refl H) (.bl _)⟩)
def tupleD : List PyData → Option PyData
  | [.list xs] => some (.tuple xs)
  | [.tuple xs] => some (.tuple xs)
  | _ => none
theorem call_tupleD : CallR X (.type "tuple") (rDC X.K tupleD) := by
  intro pins s σ H xs us Q I r ⟨ds, d, hd, hF, q⟩
  match ds, hF with
  | [.list ys], hF =>
    obtain ⟨v, rfl, h1⟩ := dpAll1 hd
    cases hF
    cases h1 with
    | lst hs ha => exact call_tuple_of pins s σ H _ us Q I r ⟨_, _, rfl, .inl ⟨hs, fun l hl => q _ _ (same_upd hl) (.tup (SqT.of upd_same) (dpAll_same (same_upd hl) ha))⟩⟩
  | [.tuple ys], hF =>
    obtain ⟨v, rfl, h1⟩ := dpAll1 hd
    cases hF
    cases h1 with
    | tup hs ha => exact call_tuple_of pins s σ H _ us Q I r ⟨_, _, rfl, .inr ⟨hs, q _ _ (Same.refl H) (.tup hs ha)⟩⟩
def listD : List PyData → Option PyData
  | [.list xs] => some (.list xs)
  | [.tuple xs] => some (.list xs)
  | _ => none
theorem call_listD : CallR X (.type "list") (rDC X.K listD) := by
  intro pins s σ H xs us Q I r ⟨ds, d, hd, hF, q⟩
  match ds, hF with
  | [.list ys], hF =>
    obtain ⟨v, rfl, h1⟩ := dpAll1 hd
    cases hF
    cases h1 with
    | lst hs ha => exact call_list_of pins s σ H _ us Q I r ⟨_, _, rfl, .inl hs, fun l hl => q _ _ (same_upd hl) (.lst (SqL.of upd_same) (dpAll_same (same_upd hl) ha))⟩
  | [.tuple ys], hF =>
    obtain ⟨v, rfl, h1⟩ := dpAll1 hd
    cases hF
    cases h1 with
    | tup hs ha => exact call_list_of pins s σ H _ us Q I r ⟨_, _, rfl, .inr hs, fun l hl => q _ _ (same_upd hl) (.lst (SqL.of upd_same) (dpAll_same (same_upd hl) ha))⟩
/-- all of a list of bools -/
def allB : List PyData → Option (List Bool)
  | [] => some []
  | .bool b :: r => (allB r).map (b :: ·)
  | _ :: _ => none
theorem allB_vs {K : PySem.W.Frag} {H : Hp} : ∀ {ds : List PyData} {vs : List V} {bs : List Bool}, DpAll K H vs ds → allB ds = some bs → vs = bs.map V.bl
  | [], _, _, h, e => by cases h; cases e; rfl
  | d :: ds, _, bs, h, e => by
    cases h with
    | cons a r =>
      cases a with
      | bl b =>
        obtain ⟨cs, hc, rfl⟩ := Option.map_eq_some_iff.mp (show (allB ds).map (b :: ·) = some bs from e)
        rw [List.map_cons, allB_vs r hc]
      | _ => cases e
def allD : List PyData → Option PyData
  | [.list xs] => (allB xs).map fun bs => .bool (bs.all id)
  | _ => none
theorem call_allD (hc : X.calm = true) : CallR X (.builtin "all") (rDC X.K allD) := by
  intro pins s σ H xs us Q I r ⟨ds, d, hd, hF, q⟩
  match ds, hF with
  | [.list ys], hF =>
    obtain ⟨v, rfl, h1⟩ := dpAll1 hd
    obtain ⟨bs, hb, rfl⟩ := Option.map_eq_some_iff.mp hF
    cases h1 with
    | lst hs ha =>
      rw [allB_vs ha hb] at hs
      exact cr_all hc pins s σ H _ us Q I r ⟨_, bs, rfl, hs, q _ _ (Same.refl H) (.bl _)⟩
end
end RL

namespace RL
open PySem PySem.Spec PyProof.Rows L2

/-! ### data without lists: it stays while the tuples stay -/
mutual
def noL : PyData → Bool
  | .none | .bool _ | .int _ | .str _ => true
  | .tuple xs => noLs xs
  | .list _ | .dict _ => false
def noLs : List PyData → Bool
  | [] => true
  | x :: xs => noL x && noLs xs
end
/-- tuples stay -/
def Tups (K : PySem.W.Frag) (H H' : Hp) : Prop := ∀ a xs, SqT K H a xs → SqT K H' a xs
theorem Tups.trans {K : PySem.W.Frag} {H H1 H2 : Hp} (a : Tups K H H1) (b : Tups K H1 H2) : Tups K H H2 := fun p xs h => b p xs (a p xs h)
theorem Same.tups {K : PySem.W.Frag} {H H' : Hp} (e : Same H H') : Tups K H H' := fun _ _ h => SqT.same e h
theorem Tups.lst {K : PySem.W.Frag} {H : Hp} {p : Addr} {o o' : HO} (h : H p = some o) (h1 : ∀ xs, o ≠ .tup xs) (h2 : ∀ ob u, o ≠ .frz ob u) : Tups K H (upd H p o') := fun a xs q => by
  rcases q with (q | ⟨ob, q⟩) | q
  · refine .inl (.inl ?_)
    rw [upd_ne]
    · exact q
    · rintro rfl
      rw [h] at q
      exact h1 _ (Option.some.inj q)
  · refine .inl (.inr ⟨ob, ?_⟩)
    rw [upd_ne]
    · exact q
    · rintro rfl
      rw [h] at q
      exact h2 _ _ (Option.some.inj q)
  · exact .inr q
theorem Tups.list {K : PySem.W.Frag} {H : Hp} {p : Addr} {xs : List V} {o' : HO} (h : H p = some (.lst xs)) : Tups K H (upd H p o') := Tups.lst h (fun _ e => nomatch e) fun _ _ e => nomatch e
mutual
theorem dp_imm {K : PySem.W.Frag} {H H' : Hp} (t : Tups K H H') : ∀ {d : PyData} {v : V}, noL d = true → Dp K H v d → Dp K H' v d
  | .none, _, _, h => by cases h; exact .non
  | .bool _, _, _, h => by cases h; exact .bl _
  | .int _, _, _, h => by cases h; exact .int _
  | .str _, _, _, h => by cases h; exact .str _
  | .list ds, _, n, h => by simp [noL] at n
  | .tuple ds, _, n, h => by
    cases h with
    | tup hs ha => exact .tup (t _ _ hs) (dpAll_imm t (by simpa [noL] using n) ha)
  | .dict _, _, n, h => by simp [noL] at n
theorem dpAll_imm {K : PySem.W.Frag} {H H' : Hp} (t : Tups K H H') : ∀ {ds : List PyData} {vs : List V}, noLs ds = true → DpAll K H vs ds → DpAll K H' vs ds
  | [], _, _, h => by cases h; exact .nil
  | d :: ds, _, n, h => by
    obtain ⟨n1, n2⟩ := Bool.and_eq_true_iff.mp (show (noL d && noLs ds) = true by simpa [noLs] using n)
    cases h with
    | cons h1 h2 => exact .cons (dp_imm t n1 h1) (dpAll_imm t n2 h2)
end
theorem noLs_append : ∀ {xs ys : List PyData}, noLs (xs ++ ys) = (noLs xs && noLs ys)
  | [], ys => by simp [noLs]
  | x :: xs, ys => by simp [noLs, noLs_append (xs := xs), Bool.and_assoc]

/-! ### isinstance -/
inductive Ty where
  | tuple | bool | int | str | list
  deriving DecidableEq
def Ty.name : Ty → String
  | .tuple => "tuple"
  | .bool => "bool"
  | .int => "int"
  | .str => "str"
  | .list => "list"
def tyName : PyData → String
  | .none => "NoneType"
  | .bool _ => "bool"
  | .int _ => "int"
  | .str _ => "str"
  | .list _ => "list"
  | .tuple _ => "tuple"
  | .dict _ => "dict"
def isTy : Ty → PyData → Bool
  | .tuple, .tuple _ => true
  | .bool, .bool _ => true
  | .int, .int _ => true
  | .int, .bool _ => true
  | .str, .str _ => true
  | .list, .list _ => true
  | _, _ => false
theorem dp_ty {K : PySem.W.Frag} {H : Hp} {v : V} {d : PyData} (h : Dp K H v d) : TyX K H v (.type (tyName d)) := by
  cases h with
  | non => exact .base .non
  | bl b => exact .base (.bl b)
  | int i => exact .base (.int i)
  | str x => exact .base (.str x)
  | lst hs ha =>
    rcases hs with (h | ⟨o, h⟩) | ⟨o, its, n, h, c, _⟩
    · exact .base (.lst h)
    · exact .base (.frz h)
    · exact .kList h c
  | tup hs ha =>
    rcases hs with (h | ⟨o, h⟩) | ⟨o, its, n, h, c, _⟩
    · exact .base (.tup h)
    · exact .fTuple h
    · exact .kTuple h c
theorem kit_isTy {K : PySem.W.Frag} {H : Hp} {v : V} (T : Ty) {d : PyData} (h : Dp K H v d) : PySem.W.kitOne K (.type (tyName d)) (.type T.name) = some (isTy T d) := by
  cases h <;> cases T <;> refine kit_ty ?_ <;> dsimp only [tyName, Ty.name, isTy] <;> decide +kernel
section
variable {X : Cx} {a b c : Expr} {ga gb gc : Rho → R PyData} {pos : Pos}
/-- a list of built-in classes by their names -/
def TyL (X : Cx) (es : List Expr) (ts : List Ty) : Prop := PA X es fun σ H Q => Q (ts.map fun t => V.ty t.name) H
theorem tyl_nil : TyL X [] [] := pa_imp pa_nil fun σ H Q h => h
theorem tyl_cons {x : Str} {es : List Expr} {ts : List Ty} {p : Pos} (T : Ty) (hg : Gl X x) (hm : X.mg x = none) (hv : bootBuiltins x = some (.type T.name)) (r : TyL X es ts) (hn : x ≠ "__name__" := by decide) (hd : (x == ("__debug__" : Str)) = false := by decide)
    (hs : starEach (.Name x p :: es) X.env = (false, eval (.Name x p) X.env) :: starEach es X.env := by rfl) : TyL X (.Name x p :: es) (T :: ts) :=
  pa_imp (pa_cons (pe_bltn (v := .ty T.name) hg hm hv rfl hn hd) r hs) fun σ H Q h => h
def gIsi (T : Ty) (ga : Rho → R PyData) : Rho → R PyData := fun ρ => (ga ρ).bd fun x => .ok (.bool (isTy T x))
def gIsiT (ts : List Ty) (ga : Rho → R PyData) : Rho → R PyData := fun ρ => (ga ρ).bd fun x => .ok (.bool (ts.any fun t => isTy t x))
theorem sem_isi {x : Str} {p1 p2 : Pos} (T : Ty) (hi : X.mg "isinstance" = none) (hm : X.mg x = none) (hv : bootBuiltins x = some (.type T.name)) (ha : SemE X a ga) (hgi : Gl X "isinstance" := by rfl) (hg : Gl X x := by rfl) (hn : x ≠ "__name__" := by decide) (hd : (x == ("__debug__" : Str)) = false := by decide)
    (he : starEach (a :: [.Name x p2]) X.env = (false, eval a X.env) :: starEach [.Name x p2] X.env := by rfl) (hpl : (backTo pos (starEach [.Name x p2] X.env)).any (·.1) = false := by rfl) :
    SemE X (.Call (.Name "isinstance" p1) [a, .Name x p2] [] pos) (gIsi T ga) := fun W tk =>
  pe_imp (pe_callB call_isi hgi hi PyProof.Rows.boot_isinstance (pa_cons (ha W tk) (tyl_cons T hg hm hv tyl_nil hn hd) he) (by decide) (by decide) he hpl) fun σ H Q ⟨ρ, env, post⟩ => ⟨ρ, env, post.seq fun d v H1 _ s1 r1 post1 => by
    exact ⟨v, .ty T.name, _, _, _, rfl, .ty _, dp_ty r1, kit_isTy T r1, post1 _ _ (Same.refl H1) (.bl _)⟩⟩
theorem kitAny_isTy {K : PySem.W.Frag} {H : Hp} {v : V} {d : PyData} (h : Dp K H v d) : ∀ ts : List Ty, PySem.W.kitAny K (.type (tyName d)) (ts.map fun t => .type t.name) = some (ts.any fun t => isTy t d)
  | [] => kitAny_nil
  | T :: ts => by
    refine kitAny_cons (kit_isTy T h) (fun e => ?_) fun e => ?_
    · rw [kitAny_isTy h ts, List.any_cons, e, Bool.false_or]
    · rw [List.any_cons, e, Bool.true_or]
theorem clsV_tys : ∀ ts : List Ty, Paired ClsV (ts.map fun t => V.ty t.name) (ts.map fun t => Value.type t.name)
  | [] => .nil
  | t :: ts => .cons (.ty _) (clsV_tys ts)
theorem sem_isiT {es : List Expr} {ts : List Ty} {p1 p2 : Pos} {k : Nat} (hts : ts.length ≤ 10) (hi : X.mg "isinstance" = none) (ht : TyL X es ts) (ha : SemE X a ga) (hgi : Gl X "isinstance" := by rfl)
    (he : starEach (a :: [.Tuple es k p2]) X.env = (false, eval a X.env) :: starEach [.Tuple es k p2] X.env := by rfl) (hs : starEach [.Tuple es k p2] X.env = (false, eval (.Tuple es k p2) X.env) :: starEach [] X.env := by rfl) (hpl : (backTo pos (starEach [.Tuple es k p2] X.env)).any (·.1) = false := by rfl) :
    SemE X (.Call (.Name "isinstance" p1) [a, .Tuple es k p2] [] pos) (gIsiT ts ga) := fun W tk =>
  pe_imp (pe_callB call_isiT hgi hi PyProof.Rows.boot_isinstance (pa_cons (ha W tk) (pa_cons (pe_tup ht) pa_nil hs) he) (by decide) (by decide) he hpl) fun σ H Q ⟨ρ, env, post⟩ => ⟨ρ, env, post.seq fun d v H1 _ s1 r1 post1 => by
    refine ⟨by rw [List.length_map, sizeLine_eq]; omega, fun p hp => ?_⟩
    show rIsiT X.K [v, V.ref p] _ Q
    exact ⟨v, p, _, _, _, _, rfl, upd_same, clsV_tys ts, dp_ty (dp_same (same_upd hp) r1), kitAny_isTy r1 ts, post1 _ _ (same_upd hp) (.bl _)⟩⟩

/-! ### calls of pure defs -/
def PostF (K : PySem.W.Frag) (mg : Str → Option Value) (H : Hp) (Q : VK) (E : XK) : R PyData → Prop
  | .ok d => ∀ v H', Same H H' → Dp K H' v d → Q v H'
  | .exc n => ∀ C H', mg n = some (.ref C) → Same H H' → E (.ref C) none H'
  | .stuck => False
  | .ask n k => ∀ i, i < n → PostF K mg H Q E (k i)
theorem postF_of {K : PySem.W.Frag} {mg : Str → Option Value} {W : WX} {σ : L2.St} {H : Hp} {Q : VK} {m : R PyData} (h : PostG mg W σ H (rDp K) Q m) : PostF K mg H Q (fun c d H' => W c d σ H') m := by
  induction m with
  | ok a => exact h
  | exc n => exact h
  | stuck => exact h
  | ask n k ih => exact fun i hi => ih i (h i hi)
/-- the promise: it computes m of the data -/
def spP (K : PySem.W.Frag) (mg : Str → Option Value) (n : Nat) (m : List PyData → R PyData) : Sp := fun vs H Q E => vs.length = n ∧ ∃ ds, DpAll K H vs ds ∧ PostF K mg H Q E (m ds)
/-- a def, told by what it computes -/
structure FnF (P : Program) (w : World) (K : PySem.W.Frag) (mg : Str → Option Value) (base : Heap) (k : Nat) (x : Str) (n : Nat) (sp : Sp) : Prop where
  ex : ∃ f fd ps, FnOk P w K mg base (L2.CX P w) k f fd ps sp ∧ mg x = some (.ref f) ∧ PySem.W.keepIn K (.ref f) = true ∧ Binds K fd ps [] ∧ ps.length = n
def gCall (n : Nat) (gs : Rho → R (List PyData)) (m : List PyData → R PyData) : Rho → R PyData := fun ρ => (gs ρ).bd fun ds => if ds.length = n then m ds else .stuck
theorem sem_call {x : Str} {n k : Nat} {m : List PyData → R PyData} {e : Expr} {es : List Expr} {gs : Rho → R (List PyData)} {p : Pos} (F : FnF X.prog X.w X.K X.mg X.base k x n (spP X.K X.mg n m)) (hr : Room k X.A) (ha : SemA X (e :: es) gs) (hg : Gl X x := by rfl)
    (hdb : (x == ("__debug__" : Str)) = false := by decide) (he : starEach (e :: es) X.env = (false, eval e X.env) :: starEach es X.env := by rfl) (hpl : (backTo pos (starEach es X.env)).any (·.1) = false := by rfl) : SemE X (.Call (.Name x p) (e :: es) [] pos) (gCall n gs m) := fun W tk => by
  obtain ⟨f, fd, ps, ok, hm, hk, hb, hl⟩ := F.ex
  refine pe_imp (pe_callS ok hr hg hm hk hb (fun σ => passAt tk σ) (ha W tk) hdb he hpl) fun σ H Q ⟨ρ, env, post⟩ => ⟨ρ, env, post.seq fun ds vs H1 _ s1 r1 post1 => ?_⟩
  split at post1
  · rename_i hn
    exact ⟨by rw [dpAll_length r1, hn], ds, r1, postF_of post1⟩
  · exact post1.elim
def gCall0 (m : List PyData → R PyData) : Rho → R PyData := fun _ => m []
theorem sem_call0 {x : Str} {k : Nat} {m : List PyData → R PyData} {p : Pos} (F : FnF X.prog X.w X.K X.mg X.base k x 0 (spP X.K X.mg 0 m)) (hr : Room k X.A) (hg : Gl X x := by rfl)
    (hdb : (x == ("__debug__" : Str)) = false := by decide) : SemE X (.Call (.Name x p) [] [] pos) (gCall0 m) := fun W tk => by
  obtain ⟨f, fd, ps, ok, hm, hk, hb, hl⟩ := F.ex
  refine ⟨fun pins s σ H Q I ⟨ρ, env, post⟩ => ?_⟩
  refine wpAny_Call_Name_kw (ld_glob I hg hm ?_ hdb)
  refine PySem.W.callWith_K0 I.kIn hk (run_fnS (us := []) (E := WE W) ok hr hb (passAt tk σ) I .nil ⟨rfl, [], .nil, ?_⟩)
  have post : PostG X.mg W σ H (rDp X.K) Q (m []) := post
  exact postF_of post
end

/-! ### targets -/
inductive Tg where
  | one (i : Nat)
  | many (is : List Nat)
def Tg.ix : Tg → List Nat
  | .one i => [i]
  | .many is => is
def Tg.vals : Tg → PyData → Option (List PyData)
  | .one _, d => some [d]
  | .many is, .tuple ds => if ds.length = is.length then some ds else none
  | .many _, _ => none
def setE : Rho → List Nat → List PyData → Rho
  | ρ, i :: is, d :: ds => setE (ρ.set i (.d d)) is ds
  | ρ, _, _ => ρ
def setS : L2.St → List Nat → List V → L2.St
  | σ, i :: is, v :: vs => setS (σ.set i (some v)) is vs
  | σ, _, _ => σ
theorem EnvR.sets {K : PySem.W.Frag} {H : Hp} : ∀ {is : List Nat} {vs : List V} {ds : List PyData} {ρ : Rho} {σ : L2.St}, EnvR K H σ ρ → DpAll K H vs ds → EnvR K H (setS σ is vs) (setE ρ is ds)
  | [], _, _, _, _, e, _ => by simp only [setS, setE]; exact e
  | i :: is, _, _, _, _, e, .nil => by simp only [setS, setE]; exact e
  | i :: is, _, _, _, _, e, .cons a r => by
    simp only [setS, setE]
    exact EnvR.sets (EnvR.setD e i a) r
/-- one's own things are younger than the def's start -/
def Own (H0 : Hp) (σ : L2.St) (ρ : Rho) : Prop := ∀ (i : Nat) (ds : List PyData) (a : Addr), ρ[i]? = some (.o ds) → σ[i]? = some (some (V.ref a)) → H0 a = none
theorem Own.set {H0 : Hp} {σ : L2.St} {ρ : Rho} {x : Sl} {o : Option V} (h : Own H0 σ ρ) (i : Nat) (hx : isOwn x = false) : Own H0 (σ.set i o) (ρ.set i x) := fun j ds a h1 h2 => by
  rcases set_get h1 with ⟨_, e⟩ | ⟨nj, h1'⟩
  · rw [← e] at hx; cases hx
  · rcases set_get h2 with ⟨e, _⟩ | ⟨_, h2'⟩
    · exact (nj e).elim
    · exact h j ds a h1' h2'
theorem Own.sets {H0 : Hp} : ∀ {is : List Nat} {vs : List V} {ds : List PyData} {ρ : Rho} {σ : L2.St}, Own H0 σ ρ → vs.length = ds.length → Own H0 (setS σ is vs) (setE ρ is ds)
  | [], _, _, _, _, e, _ => by simp only [setS, setE]; exact e
  | i :: is, [], [], _, _, e, _ => by simp only [setS, setE]; exact e
  | i :: is, v :: vs, d :: ds, _, _, e, hl => by
    simp only [setS, setE]
    exact Own.sets (Own.set e i rfl) (by simpa using hl)
  | _ :: _, [], _ :: _, _, _, _, hl => by simp at hl
  | _ :: _, _ :: _, [], _, _, _, hl => by simp at hl
/-- the state between two statements: H0 the def's start, Hb a heap behind it -/
structure EnvO (K : PySem.W.Frag) (H0 Hb H : Hp) (σ : L2.St) (ρ : Rho) : Prop where
  s : Same H0 H
  g : Grow Hb H
  e : EnvR K H σ ρ
  o : Own H0 σ ρ
theorem EnvO.same {K : PySem.W.Frag} {H0 Hb H H1 : Hp} {σ : L2.St} {ρ : Rho} (h : EnvO K H0 Hb H σ ρ) (s : Same H H1) : EnvO K H0 Hb H1 σ ρ := ⟨h.s.trans s, h.g.trans (.of s), h.e.same s, h.o⟩
theorem EnvO.setD {K : PySem.W.Frag} {H0 Hb H : Hp} {σ : L2.St} {ρ : Rho} {d : PyData} {v : V} (h : EnvO K H0 Hb H σ ρ) (i : Nat) (r : Dp K H v d) : EnvO K H0 Hb H (σ.set i (some v)) (ρ.set i (.d d)) := ⟨h.s, h.g, h.e.setD i r, h.o.set i rfl⟩
theorem EnvO.sets {K : PySem.W.Frag} {H0 Hb H : Hp} {σ : L2.St} {ρ : Rho} {is : List Nat} {vs : List V} {ds : List PyData} (h : EnvO K H0 Hb H σ ρ) (r : DpAll K H vs ds) : EnvO K H0 Hb H (setS σ is vs) (setE ρ is ds) := ⟨h.s, h.g, h.e.sets r, h.o.sets (dpAll_length r)⟩
theorem EnvP.own {K : PySem.W.Frag} {H : Hp} {σ : L2.St} {ρ : Rho} (h : EnvP K H σ ρ) {j : Nat} {y : Sl} {a : Addr} (hy : ρ[j]? = some y) (oy : isOwn y = true) (ha : σ[j]? = some (some (V.ref a))) : ∃ φ, H a = some (.ext φ) := by
  obtain ⟨o, h1, h2⟩ := h.at hy
  rw [ha] at h1
  cases h1
  cases y with
  | s => obtain ⟨b, e, h3⟩ := h2; cases e; exact ⟨_, h3⟩
  | o ds => obtain ⟨b, vs, e, h3, _⟩ := h2; cases e; exact ⟨_, h3⟩
  | _ => cases oy
/-- a new thing of one's own -/
theorem EnvO.new {K : PySem.W.Frag} {H0 Hb H : Hp} {σ : L2.St} {ρ : Rho} {p : Addr} {u : HO} {x : Sl} (h : EnvO K H0 Hb H σ ρ) (hp : H p = none) (hx : SlotR K (upd H p u) x (some (.ref p))) (i : Nat) : EnvO K H0 Hb (upd H p u) (σ.set i (some (.ref p))) (ρ.set i x) := by
  refine ⟨h.s.trans (same_upd hp), h.g.trans (.of (same_upd hp)), ⟨(h.e.p.same (same_upd hp)).set hx i, h.e.d.set i fun _ j y a nj hy oy ea sj => ?_⟩, fun j ds a h1 h2 => ?_⟩
  · cases ea
    obtain ⟨φ, e⟩ := h.e.p.own hy oy sj
    rw [hp] at e
    cases e
  · rcases set_get h2 with ⟨_, e⟩ | ⟨nj, h2'⟩
    · cases e
      cases z : H0 p with
      | none => rfl
      | some w => rw [h.s p w z] at hp; cases hp
    · rcases set_get h1 with ⟨e, _⟩ | ⟨_, h1'⟩
      · exact (nj e).elim
      · exact h.o j ds a h1' h2'
theorem EnvO.base {K : PySem.W.Frag} {H0 Hb Hb' H : Hp} {σ : L2.St} {ρ : Rho} (h : EnvO K H0 Hb' H σ ρ) (g : Grow Hb Hb') : EnvO K H0 Hb H σ ρ := ⟨h.s, g.trans h.g, h.e, h.o⟩
section
variable {X : Cx} {pos : Pos}
def gTg (K : PySem.W.Frag) (T : Tg) : TG := fun v σ H Q => ∃ d ds, Dp K H v d ∧ T.vals d = some ds ∧ ∀ vs, vs.length = T.ix.length → DpAll K H vs ds → Q (setS σ T.ix vs) H
theorem tg_one {i : Nat} {x : Str} (hN : X.N.Nodup) (hi : X.N[i]? = some x := by rfl) (hx : Loc X.env.scope x := by first | exact Or.inl rfl | exact Or.inr rfl) (hf : X.fn x = true ∨ X.env.scope.names.lookup x = some .local := by first | exact .inl rfl | exact .inr rfl | assumption) : PG X (.Name x pos) (gTg X.K (.one i)) := by
  refine ⟨fun pins s σ H v u Q I r ⟨d, ds, hd, hv, q⟩ => (pg_name hN hi hx hf).run pins s σ H v u Q I r ?_⟩
  cases hv
  exact q [v] rfl (.cons hd .nil)
inductive TgL (X : Cx) : List Expr → List Nat → Prop where
  | nil : TgL X [] []
  | cons {i : Nat} {x : Str} {p : Pos} {es : List Expr} {is : List Nat} (hN : X.N.Nodup) (hi : X.N[i]? = some x) (hx : Loc X.env.scope x) (hf : X.fn x = true ∨ X.env.scope.names.lookup x = some .local)
      (hs : (assignEach (.Name x p :: es) X.env).map (·.2) = assign (.Name x p) X.env :: (assignEach es X.env).map (·.2)) (r : TgL X es is) : TgL X (.Name x p :: es) (i :: is)
def gAll : List Nat → TGs := fun is vs σ H Q => vs.length = is.length ∧ Q (setS σ is vs) H
theorem TgL.pgs : ∀ {es : List Expr} {is : List Nat}, TgL X es is → PGs X es (gAll is)
  | _, _, .nil => ⟨fun pins s σ H vs us Q I r ⟨hl, q⟩ => by
      have e : vs = [] := List.length_eq_zero_iff.mp hl
      subst e
      exact pgs_nil.run pins s σ H [] us Q I r ⟨rfl, q⟩⟩
  | _, _, .cons (i := i) (is := is) hN hi hx hf hs r => ⟨fun pins s σ H vs us Q I rv ⟨hl, q⟩ => by
      cases vs with
      | nil => simp at hl
      | cons v vs => exact (pgs_cons (pg_name hN hi hx hf) r.pgs hs).run pins s σ H (v :: vs) us Q I rv ⟨v, vs, rfl, by simpa using hl, q⟩⟩
theorem tg_many {es : List Expr} {is : List Nat} {k : Nat} (hc : X.calm = true) (h : TgL X es is) (hn : (assignEach es X.env).length = is.length := by rfl) (hst : (assignEach es X.env).findIdx? (·.1) = none := by rfl) : PG X (.Tuple es k pos) (gTg X.K (.many is)) := by
  refine ⟨fun pins s σ H v u Q I r ⟨d, ds, hd, hv, q⟩ => (pg_tup hc h.pgs hn hst).run pins s σ H v u Q I r ?_⟩
  cases hd with
  | tup hs ha =>
    obtain ⟨hl, rfl⟩ := ite_some hv
    exact ⟨_, _, rfl, hs, by rw [dpAll_length ha, hl], by rw [dpAll_length ha, hl], q _ (by rw [dpAll_length ha, hl]; rfl) ha⟩
  | _ => cases hv

/-! ### statements -/
inductive O where
  | nx (ρ : Rho) | rt (d : PyData) | exc (n : Str) (ρ : Rho) | stuck | ask (n : Nat) (k : Nat → O)
def PostS (K : PySem.W.Frag) (mg : Str → Option Value) (W : WX) (D : Ends) (H0 Hb : Hp) : O → Prop
  | .nx ρ => ∀ σ' H', EnvO K H0 Hb H' σ' ρ → D.nx σ' H'
  | .rt d => ∀ v H', Same H0 H' → Dp K H' v d → D.rt v H'
  | .exc n ρ => ∀ C σ' H', mg n = some (.ref C) → EnvO K H0 Hb H' σ' ρ → W (.ref C) none σ' H'
  | .stuck => False
  | .ask n k => ∀ i, i < n → PostS K mg W D H0 Hb (k i)
theorem PostS.base {K : PySem.W.Frag} {mg : Str → Option Value} {W : WX} {D : Ends} {H0 Hb Hb' : Hp} {o : O} (g : Grow Hb Hb') (h : PostS K mg W D H0 Hb o) : PostS K mg W D H0 Hb' o := by
  induction o with
  | nx ρ => exact fun σ' H' e => h σ' H' (e.base g)
  | rt d => exact h
  | exc n ρ => exact fun C σ' H' e q => h C σ' H' e (q.base g)
  | stuck => exact h
  | ask n k ih => exact fun i hi => ih i (h i hi)
def tPS (K : PySem.W.Frag) (mg : Str → Option Value) (W : WX) (g : Rho → O) : TS := fun D σ H => ∃ H0 Hb ρ, EnvO K H0 Hb H σ ρ ∧ PostS K mg W D H0 Hb (g ρ)
structure Tk (X : Cx) (W : WX) : Prop where
  tk : Takes X W
  po : PassesOwn (model X.prog X.w) X.A X.env X.xe
def SemS (X : Cx) (st : Stmt) (g : Rho → O) : Prop := ∀ W, Tk X W → PS X st (tPS X.K X.mg W g)
def SemSs (X : Cx) (sts : List Stmt) (g : Rho → O) : Prop := ∀ W, Tk X W → PSs X sts (tPS X.K X.mg W g)
def O.th : O → (Rho → O) → O
  | .nx ρ, f => f ρ
  | .rt d, _ => .rt d
  | .exc n ρ, _ => .exc n ρ
  | .stuck, _ => .stuck
  | .ask n k, f => .ask n fun i => (k i).th f
def R.to {α : Type} (m : R α) (ρ : Rho) (f : α → O) : O := match m with
  | .ok a => f a
  | .exc n => .exc n ρ
  | .stuck => .stuck
  | .ask n k => .ask n fun i => (k i).to ρ f
@[simp] theorem O.th_ask (n : Nat) (k : Nat → O) (f : Rho → O) : (O.ask n k).th f = .ask n fun i => (k i).th f := rfl
@[simp] theorem R.to_ask {α : Type} (n : Nat) (k : Nat → R α) (ρ : Rho) (f : α → O) : (R.ask n k).to ρ f = .ask n fun i => (k i).to ρ f := rfl
@[simp] theorem O.th_nx (ρ : Rho) (f : Rho → O) : (O.nx ρ).th f = f ρ := rfl
@[simp] theorem O.th_rt (d : PyData) (f : Rho → O) : (O.rt d).th f = .rt d := rfl
@[simp] theorem O.th_exc (n : Str) (ρ : Rho) (f : Rho → O) : (O.exc n ρ).th f = .exc n ρ := rfl
@[simp] theorem O.th_stuck (f : Rho → O) : (O.stuck).th f = .stuck := rfl
@[simp] theorem R.to_ok {α : Type} (a : α) (ρ : Rho) (f : α → O) : (R.ok a).to ρ f = f a := rfl
@[simp] theorem R.to_exc {α : Type} (n : Str) (ρ : Rho) (f : α → O) : (R.exc n : R α).to ρ f = .exc n ρ := rfl
@[simp] theorem R.to_stuck {α : Type} (ρ : Rho) (f : α → O) : (R.stuck : R α).to ρ f = .stuck := rfl
/-- from an expression's end to a statement's -/
theorem post_to {α β : Type} {K : PySem.W.Frag} {mg : Str → Option Value} {W : WX} {D : Ends} {σ : L2.St} {H0 Hb H : Hp} {rel : Hp → β → α → Prop} {m : R α} {f : α → O} {Q : β → Hp → Prop} {ρ : Rho} (env : EnvO K H0 Hb H σ ρ) (post : PostS K mg W D H0 Hb (m.to ρ f)) (h : ∀ a v H1, Same H H1 → rel H1 v a → PostS K mg W D H0 Hb (f a) → Q v H1) : PostG mg W σ H rel Q m := by
  induction m with
  | ok a => exact fun v H' s r => h a v H' s r post
  | exc n => exact fun C H' e s => post C σ H' e (env.same s)
  | stuck => exact post
  | ask n k ih => exact fun i hi => ih i (post i hi)
/-- from a block's end to its first statement's -/
theorem post_th {K : PySem.W.Frag} {mg : Str → Option Value} {W : WX} {D D' : Ends} {H0 Hb : Hp} {o : O} {f : Rho → O} (post : PostS K mg W D H0 Hb (o.th f)) (hr : ∀ v H', D.rt v H' → D'.rt v H') (h : ∀ ρ σ' H', EnvO K H0 Hb H' σ' ρ → PostS K mg W D H0 Hb (f ρ) → D'.nx σ' H') : PostS K mg W D' H0 Hb o := by
  induction o with
  | nx ρ => exact fun σ' H' e => h ρ σ' H' e post
  | rt d => exact fun v H' s r => hr _ _ (post v H' s r)
  | exc n ρ => exact post
  | stuck => exact post
  | ask n k ih => exact fun i hi => ih i (post i hi)
variable {st : Stmt} {rest : List Stmt} {g g' : Rho → O} {e t : Expr} {ge : Rho → R PyData} {gt : Rho → R Bool}
def sNil : Rho → O := fun ρ => .nx ρ
def sSeq (g g' : Rho → O) : Rho → O := fun ρ => (g ρ).th g'
def sRet (ge : Rho → R PyData) : Rho → O := fun ρ => (ge ρ).to ρ .rt
def sExpr (ge : Rho → R PyData) : Rho → O := fun ρ => (ge ρ).to ρ fun _ => .nx ρ
def sSet (i : Nat) (ge : Rho → R PyData) : Rho → O := fun ρ => (ge ρ).to ρ fun d => .nx (ρ.set i (.d d))
def tgO (T : Tg) (ρ : Rho) (d : PyData) : O := match T.vals d with
  | some ds => .nx (setE ρ T.ix ds)
  | none => .stuck
def sAsg (T : Tg) (ge : Rho → R PyData) : Rho → O := fun ρ => (ge ρ).to ρ (tgO T ρ)
def sIf (gt : Rho → R Bool) (g g' : Rho → O) : Rho → O := fun ρ => (gt ρ).to ρ fun b => if b = true then g ρ else g' ρ
def sExc (n : Str) : Rho → O := fun ρ => .exc n ρ
theorem sem_snil : SemSs X [] sNil := fun W tk => pss_imp pss_nil fun D σ H ⟨H0, Hb, ρ, env, post⟩ => post σ H env
theorem sem_scons (h1 : SemS X st g) (h2 : SemSs X rest g') : SemSs X (st :: rest) (sSeq g g') := fun W tk => pss_imp (pss_cons (h1 W tk) (h2 W tk)) fun D σ H ⟨H0, Hb, ρ, env, post⟩ => ⟨H0, Hb, ρ, env, by
    have post : PostS X.K X.mg W D H0 Hb ((g ρ).th g') := post
    exact post_th post (fun _ _ h => h) fun ρ' σ' H' env' q => ⟨H0, Hb, ρ', env', q⟩⟩
theorem sem_sone (h1 : SemS X st g) : SemSs X [st] g := fun W tk => pss_imp (pss_one (h1 W tk)) fun D σ H h => h
theorem sem_ret (he : SemE X e ge) : SemS X (.Return (some e) pos) (sRet ge) := fun W tk => ps_imp (ps_ret (he W tk.tk)) fun D σ H ⟨H0, Hb, ρ, env, post⟩ => ⟨ρ, env.e, post_to env post fun a v H1 s r q => q v H1 (env.s.trans s) r⟩
theorem sem_expr (he : SemE X e ge) (hs : swapsWith e none pos.line X.env = pure false := by rfl) : SemS X (.Expr e pos) (sExpr ge) := fun W tk => ps_imp (ps_expr (he W tk.tk) hs) fun D σ H ⟨H0, Hb, ρ, env, post⟩ => ⟨ρ, env.e, post_to env post fun a v H1 s r q => q σ H1 (env.same s)⟩
theorem sem_set {i : Nat} {x : Str} {pos' : Pos} (hN : X.N.Nodup) (he : SemE X e ge) (hi : X.N[i]? = some x := by rfl) (hx : Loc X.env.scope x := by first | exact Or.inl rfl | exact Or.inr rfl) (hs : swapsWith e (some (.Name x pos')) pos.line X.env = pure false := by rfl) (hf : X.fn x = true ∨ X.env.scope.names.lookup x = some .local := by first | exact .inl rfl | exact .inr rfl | assumption) :
    SemS X (.Assign [.Name x pos'] e pos) (sSet i ge) := fun W tk => ps_imp (ps_set hN hi hx (he W tk.tk) hs hf) fun D σ H ⟨H0, Hb, ρ, env, post⟩ => ⟨ρ, env.e, post_to env post fun a v H1 s r q => q _ H1 ((env.same s).setD i r)⟩
theorem sem_asg {tg : Expr} {T : Tg} (hg : PG X tg (gTg X.K T)) (he : SemE X e ge) (hs : swapsWithSole [tg] e pos.line X.env = pure false := by rfl) (hw : swappedStores [tg] e X.env = pure none := by rfl) (h1 : (assignEach [tg] X.env).map (·.2) = [assign tg X.env] := by rfl) :
    SemS X (.Assign [tg] e pos) (sAsg T ge) := fun W tk => ps_imp (ps_asg (he W tk.tk) hg hs hw h1) fun D σ H ⟨H0, Hb, ρ, env, post⟩ => ⟨ρ, env.e, post_to env post fun a v H1 s r q => by
    unfold tgO at q
    split at q
    · rename_i ds hv
      exact ⟨a, ds, r, hv, fun vs hl hd => q _ H1 ((env.same s).sets hd)⟩
    · exact q.elim⟩
theorem sem_sif {xs ys : List Stmt} {c : Expr} (hc : SemT X c gt) (ha : SemSs X xs g) (hb : SemSs X ys g') : SemS X (.If c xs ys pos) (sIf gt g g') := fun W tk => ps_imp (ps_if (hc W tk.tk) (ha W tk) (hb W tk)) fun D σ H ⟨H0, Hb, ρ, env, post⟩ => ⟨ρ, env.e, post_to env post fun a v H1 s r q => by
    subst r
    cases v with
    | true => rw [if_pos rfl] at q ⊢; exact ⟨H0, Hb, ρ, env.same s, q⟩
    | false => rw [if_neg Bool.false_ne_true] at q ⊢; exact ⟨H0, Hb, ρ, env.same s, q⟩⟩
theorem sem_pass : SemS X (.Pass pos) sNil := fun W tk => ps_imp ps_pass fun D σ H ⟨H0, Hb, ρ, env, post⟩ => post σ H env

/-! ### raise -/
structure ExF (K : PySem.W.Frag) (mg : Str → Option Value) (n : Str) : Prop where
  ex : ∃ C, mg n = some (.ref C) ∧ PySem.W.excIn K C He.veBase "ValueError.__new__" = true ∧ PySem.W.keepIn K (.ref C) = true ∧ PySem.W.subIn K (.ref C) (.type "BaseException") = some true ∧ PySem.W.typeIn K (.ref C) = some (.type "type")
theorem sem_raise {n m : Str} {j : Nat} {p p2 p3 : Pos} (E : ExF X.K X.mg n) (hc : X.calm = true := by rfl) (hg : Gl X n := by rfl) (hdb : (n == ("__debug__" : Str)) = false := by decide) : SemS X (.Raise (some (.Call (.Name n p) [.Constant (.str m) j p2] [] p3)) none pos) (sExc n) := fun W tk => by
  obtain ⟨C, hm, q, kC, sb, ty⟩ := E.ex
  exact ps_imp (ps_raise hc tk.tk (pmk_own PySem.F.excBase_ValueError q hm kC (raises_own sb ty) hg hdb)) fun D σ H ⟨H0, Hb, ρ, env, post⟩ => post C σ H hm env
end
end RL

namespace RL
open PySem PySem.Spec PyProof.Rows L2

/-! ### what is walked -/
structure Yields (K : PySem.W.Frag) (H0 : Hp) (J : It) (ds : List PyData) : Prop where
  go : ∀ i H d, Grow H0 H → ds[i]? = some d → J.go i H ∧ ∀ x H', J.yld i H x H' → Same H H' ∧ Dp K H' x d
  stop : ∀ H, Grow H0 H → J.stop ds.length H
theorem Yields.same {K : PySem.W.Frag} {H0 H1 : Hp} {J : It} {ds : List PyData} (s : Same H0 H1) (y : Yields K H0 J ds) : Yields K H1 J ds :=
  ⟨fun i H d e => y.go i H d ((Grow.of s).trans e), fun H e => y.stop H ((Grow.of s).trans e)⟩
def tPI (K : PySem.W.Frag) (mg : Str → Option Value) (W : WX) (g : Rho → R (List PyData)) : TI := fun σ H R => ∃ ρ, EnvR K H σ ρ ∧ PostG mg W σ H (fun H' (J : It) ds => Yields K H' J ds) R (g ρ)
def SemI (X : Cx) (tg iter : Expr) (g : Rho → R (List PyData)) : Prop := ∀ W, Takes X W → PI X tg iter (tPI X.K X.mg W g)
theorem yields_list {K : PySem.W.Frag} {H : Hp} {a : Addr} {xs : List V} {ds : List PyData} (hs : SqL K H a xs) (ha : DpAll K H xs ds) : Yields K H (Itl K a) ds :=
  ⟨fun i H' d s e => by
    obtain ⟨v, h1, h2⟩ := dpAll_get ha e
    refine ⟨⟨xs, v, SqL.grow s hs, h1⟩, fun x H2 ⟨e2, q⟩ => ?_⟩
    subst e2
    have h3 := q xs (SqL.grow s hs)
    rw [h1] at h3
    cases h3
    exact ⟨Same.refl _, dp_grow s h2⟩, fun H' s => ⟨xs, SqL.grow s hs, by rw [dpAll_length ha]; exact Nat.le_refl _⟩⟩
theorem yields_tup {K : PySem.W.Frag} {H : Hp} {a : Addr} {xs : List V} {ds : List PyData} (hs : SqT K H a xs) (ha : DpAll K H xs ds) : Yields K H (Itt K a) ds :=
  ⟨fun i H' d s e => by
    obtain ⟨v, h1, h2⟩ := dpAll_get ha e
    refine ⟨⟨xs, v, SqT.grow s hs, h1⟩, fun x H2 ⟨e2, q⟩ => ?_⟩
    subst e2
    have h3 := q xs (SqT.grow s hs)
    rw [h1] at h3
    cases h3
    exact ⟨Same.refl _, dp_grow s h2⟩, fun H' s => ⟨xs, SqT.grow s hs, by rw [dpAll_length ha]; exact Nat.le_refl _⟩⟩
def rangeL (lo : Int) (n : Nat) : List PyData := (List.range n).map fun (i : Nat) => .int (lo + (i : Int))
theorem rangeL_length (lo : Int) (n : Nat) : (rangeL lo n).length = n := by unfold rangeL; rw [List.length_map, List.length_range]
theorem rangeL_get {lo : Int} {n i : Nat} {d : PyData} (h : (rangeL lo n)[i]? = some d) : i < n ∧ d = .int (lo + (i : Int)) := by
  unfold rangeL at h
  rw [List.getElem?_map] at h
  by_cases hi : i < n
  · rw [List.getElem?_range hi] at h
    exact ⟨hi, (Option.some.inj h).symm⟩
  · rw [List.getElem?_eq_none (by rw [List.length_range]; omega)] at h
    cases h
theorem yields_range {K : PySem.W.Frag} {H : Hp} (lo : Int) (n : Nat) : Yields K H (Itr lo n) (rangeL lo n) :=
  ⟨fun i H' d s e => by
    obtain ⟨hi, rfl⟩ := rangeL_get e
    exact ⟨hi, fun x H2 ⟨e2, q⟩ => by subst e2 q; exact ⟨Same.refl _, .int _⟩⟩, fun H' s => by rw [rangeL_length]; exact Nat.le_refl _⟩
def asSeq : PyData → Option (List PyData)
  | .list ds => some ds
  | .tuple ds => some ds
  | _ => none
section
variable {X : Cx} {tg e a b : Expr} {g ga gb : Rho → R PyData} {pos : Pos}
def iSeq (g : Rho → R PyData) : Rho → R (List PyData) := fun ρ => (g ρ).bd fun x => R.of (asSeq x)
/-- a list or a tuple, walked -/
theorem pi_seq {tl : TE} (hl : PE X e tl) : PI X tg e (fun σ H R => tl σ H fun x H1 => ∃ a, x = .ref a ∧ (((∃ xs, SqL X.K H1 a xs) ∧ R (Itl X.K a) H1) ∨ ((∃ xs, SqT X.K H1 a xs) ∧ R (Itt X.K a) H1))) := by
  refine ⟨fun pins s σ H R I h => ?_⟩
  refine thn (hl.run pins s σ H _ I h) fun v s1 ⟨x, H1, I1, r1, q1⟩ => ?_
  obtain ⟨a, e, ⟨⟨xs, hq⟩, q⟩ | ⟨⟨xs, hq⟩, q⟩⟩ := q1
  · subst e
    cases r1
    obtain ⟨its, rv, p, hz⟩ := I1.list hq
    refine wpAny_pyIter_list p.isList ?_
    refine ⟨s1.heap.objs.size, [s1.heap.objs.size], _, _, H1, rfl, I1.kept (t' := s1.toks) fun b o e => Heap.get?_push_of_some _ e, turn_list a _, ⟨_, Heap.get?_push_size _ rfl, rfl, rfl⟩, fun b hb => ?_, q⟩
    have e : b = s1.heap.objs.size := by simpa using hb
    subst e
    exact I1.fpOk (Nat.le_refl _) (I1.hok.fresh (Nat.le_refl _))
  · subst e
    cases r1
    obtain ⟨its, rv, p, hz⟩ := I1.tuple hq
    refine wpAny_pyIter_tuple (show s1.heap.IsTuple a its.toArray from p) ?_
    refine ⟨s1.heap.objs.size, [s1.heap.objs.size], _, _, H1, rfl, I1.kept (t' := s1.toks) fun b o e => Heap.get?_push_of_some _ e, turn_tuple a _, ⟨_, Heap.get?_push_size _ rfl, rfl, rfl⟩, fun b hb => ?_, q⟩
    have e : b = s1.heap.objs.size := by simpa using hb
    subst e
    exact I1.fpOk (Nat.le_refl _) (I1.hok.fresh (Nat.le_refl _))
theorem sem_iter (he : SemE X e g) : SemI X tg e (iSeq g) := fun W tk => pi_imp (pi_seq (he W tk)) fun σ H R ⟨ρ, env, post⟩ => ⟨ρ, env, post.seq fun x v H1 z s1 r1 post1 => by
    cases r1 with
    | lst hs ha => exact ⟨_, rfl, .inl ⟨⟨_, hs⟩, post1 _ _ (Same.refl H1) (yields_list hs ha)⟩⟩
    | tup hs ha => exact ⟨_, rfl, .inr ⟨⟨_, hs⟩, post1 _ _ (Same.refl H1) (yields_tup hs ha)⟩⟩
    | _ => exact post1.elim⟩
def inR (j : Int) : Prop := -(2 ^ 62) ≤ j ∧ j < 2 ^ 62
instance (j : Int) : Decidable (inR j) := by unfold inR; infer_instance
def range1D (x : PyData) : Option (List PyData) := (asI x).bind fun j => if inR j then some (rangeL 0 j.toNat) else none
def range2D (x y : PyData) : Option (List PyData) := (asI x).bind fun i => (asI y).bind fun j => if inR i ∧ inR j then some (rangeL i (j - i).toNat) else none
def iR1 (ga : Rho → R PyData) : Rho → R (List PyData) := fun ρ => (ga ρ).bd fun x => R.of (range1D x)
def iR2 (ga gb : Rho → R PyData) : Rho → R (List PyData) := fun ρ => (ga ρ).bd fun x => (gb ρ).bd fun y => R.of (range2D x y)
theorem sem_range1 {p : Pos} (hm : X.mg "range" = none) (ha : SemE X a ga) (hg : Gl X "range" := by rfl) (hs : starEach [a] X.env = [(false, eval a X.env)] := by rfl) : SemI X tg (.Call (.Name "range" p) [a] [] pos) (iR1 ga) := fun W tk =>
  pi_imp (pi_range1 hg hm (pa_cons (ha W tk) pa_nil hs) hs) fun σ H R ⟨ρ, env, post⟩ => ⟨ρ, env, post.seq fun x v H1 _ s1 r1 post1 => by
    obtain ⟨ds, e, q⟩ := post1.use
    cases r1 with
    | int j =>
      obtain ⟨c, rfl⟩ := ite_some (show (if inR j then some (rangeL 0 j.toNat) else none) = some ds from e)
      exact ⟨j, rfl, c.1, c.2, q _ _ (Same.refl H1) (yields_range 0 j.toNat)⟩
    | _ => cases e⟩
theorem sem_range2 {p : Pos} (hm : X.mg "range" = none) (ha : SemE X a ga) (hb : SemE X b gb) (hg : Gl X "range" := by rfl) (hs : starEach [a, b] X.env = [(false, eval a X.env), (false, eval b X.env)] := by rfl) (hs2 : starEach [b] X.env = [(false, eval b X.env)] := by rfl) : SemI X tg (.Call (.Name "range" p) [a, b] [] pos) (iR2 ga gb) := fun W tk =>
  pi_imp (pi_range2 hg hm (pa_cons (ha W tk) (pa_cons (hb W tk) pa_nil hs2) (by rw [hs, hs2])) hs hs2) fun σ H R ⟨ρ, env, post⟩ => ⟨ρ, env, post.seq fun x v H1 _ s1 r1 post1 => ⟨ρ, env.same s1, post1.seq fun y u H2 _ s2 r2 post2 => by
    obtain ⟨ds, e, q⟩ := post2.use
    cases r1 with
    | int i =>
      cases r2 with
      | int j =>
        obtain ⟨c, rfl⟩ := ite_some (show (if inR i ∧ inR j then some (rangeL i (j - i).toNat) else none) = some ds from e)
        exact ⟨i, j, rfl, ⟨c.1.1, c.1.2, c.2.1, c.2.2⟩, q _ _ (Same.refl H2) (yields_range i (j - i).toNat)⟩
      | _ => cases e
    | _ => cases r2 <;> cases e⟩⟩

/-! ### for -/
def forD (T : Tg) (body : Rho → O) : List PyData → Rho → O
  | [], ρ => .nx ρ
  | d :: r, ρ => match T.vals d with
    | none => .stuck
    | some xs => (body (setE ρ T.ix xs)).th (forD T body r)
def sFor (T : Tg) (gi : Rho → R (List PyData)) (gb : Rho → O) : Rho → O := fun ρ => (gi ρ).to ρ fun ds => forD T gb ds ρ
theorem sem_for {iter : Expr} {body : List Stmt} {T : Tg} {gi : Rho → R (List PyData)} {gb : Rho → O} (hi : SemI X tg iter gi) (hg : PG X tg (gTg X.K T)) (hb : SemSs X body gb) (hc : X.calm = true := by rfl) (hs : ∀ x, foldedSetIterable iter X.env x = pure x := by intro _; rfl) :
    SemS X (.For tg iter body [] pos) (sFor T gi gb) := fun W tk => ps_imp (ps_for tk.po hc (hi W tk.tk) hg (hb W tk) hs) fun D σ H ⟨H0, Hb, ρ, env, post⟩ => ⟨ρ, env.e, post_to env post fun ds J H1 s1 y q => by
  have g1 : Grow Hb H1 := env.g.trans (.of s1)
  refine ⟨fun i m σ' H' => m = ds.length - i ∧ i ≤ ds.length ∧ ∃ ρ', EnvO X.K H0 H1 H' σ' ρ' ∧ PostS X.K X.mg W D H0 H1 (forD T gb (ds.drop i) ρ'), ⟨_, rfl, Nat.zero_le _, ρ, ⟨env.s.trans s1, .refl _, env.e.same s1, env.o⟩, PostS.base g1 q⟩, fun i m σ' H' ⟨em, hle, ρ', env', q'⟩ => ?_⟩
  by_cases hi : ds.length ≤ i
  · refine .inl ⟨by rw [Nat.le_antisymm hle hi]; exact y.stop H' env'.g, ?_⟩
    rw [List.drop_of_length_le hi] at q'
    exact q' σ' H' env'
  · refine .inr ?_
    have hlt : i < ds.length := by omega
    have e : ds[i]? = some ds[i] := List.getElem?_eq_getElem hlt
    obtain ⟨h1, h2⟩ := y.go i H' _ env'.g e
    refine ⟨h1, fun σ2 H2 => ∃ ρ2, EnvO X.K H0 H1 H2 σ2 ρ2 ∧ PostS X.K X.mg W D H0 H1 (forD T gb (ds.drop (i + 1)) ρ2), fun σ2 H2 rN => ⟨_, by omega, rfl, hlt, rN⟩, fun x H2 hx => ?_⟩
    obtain ⟨s2, r2⟩ := h2 x H2 hx
    rw [List.drop_eq_getElem_cons hlt] at q'
    unfold forD at q'
    cases z : T.vals ds[i] with
    | none => rw [z] at q'; exact q'.elim
    | some xs =>
      rw [z] at q'
      refine ⟨_, xs, r2, z, fun vs hl hd => ⟨H0, H1, _, (env'.same s2).sets hd, ?_⟩⟩
      have q2 : PostS X.K X.mg W D H0 H1 ((gb (setE ρ' T.ix xs)).th (forD T gb (ds.drop (i + 1)))) := q'
      exact post_th q2 (fun _ _ h => h) fun ρ3 σ3 H3 env3 q3 => ⟨ρ3, env3, q3⟩⟩

/-! ### comprehensions -/
def lcD (T : Tg) (tt : Rho → R Bool) (te : Rho → R PyData) (ρ : Rho) : List PyData → R (List PyData)
  | [] => .ok []
  | d :: r => match T.vals d with
    | none => .stuck
    | some xs => (tt (setE ρ T.ix xs)).calm.bd fun b => if b = true then (te (setE ρ T.ix xs)).calm.bd fun y => if noL y = true then (lcD T tt te ρ r).bd fun ys => .ok (y :: ys) else .stuck else lcD T tt te ρ r
theorem wipe_set {σ : L2.St} {i : Nat} {x : Option V} : ∀ {vs : List Nat}, i ∈ vs → L2.wipe (σ.set i x) vs = L2.wipe σ vs
  | [], h => by simp at h
  | j :: r, h => by
    unfold L2.wipe
    by_cases hm : i ∈ r
    · rw [wipe_set hm]
    · have hj : i = j := by
        rcases List.mem_cons.mp h with e | e
        · exact e
        · exact (hm e).elim
      subst hj
      have key : ∀ (r : List Nat) (σ : L2.St), (L2.wipe (σ.set i x) r).set i none = (L2.wipe σ r).set i none := by
        intro r
        induction r with
        | nil => intro σ; simp [L2.wipe, List.set_set]
        | cons k r ih =>
          intro σ
          unfold L2.wipe
          by_cases hk : k = i
          · subst hk; rw [List.set_set, List.set_set]; exact ih σ
          · rw [List.set_comm _ _ hk, ih σ, List.set_comm _ _ (Ne.symm hk)]
      exact key r σ
theorem wipe_sets {vs : List Nat} : ∀ {is : List Nat} {xs : List V} {σ : L2.St}, (∀ i ∈ is, i ∈ vs) → L2.wipe (setS σ is xs) vs = L2.wipe σ vs
  | [], _, _, _ => by unfold setS; rfl
  | _ :: _, [], _, _ => by unfold setS; rfl
  | i :: is, x :: xs, σ, h => by
    unfold setS
    rw [wipe_sets (fun j hj => h j (List.mem_cons_of_mem _ hj)), wipe_set (h i List.mem_cons_self)]
theorem wipe_idem {σ : L2.St} (vs : List Nat) : L2.wipe (L2.wipe σ vs) vs = L2.wipe σ vs := by
  have key : ∀ (ws : List Nat), (∀ i ∈ ws, i ∈ vs) → ∀ σ : L2.St, L2.wipe (L2.wipe σ ws) vs = L2.wipe σ vs := by
    intro ws
    induction ws with
    | nil => intro _ σ; rfl
    | cons j r ih =>
      intro h σ
      show L2.wipe ((L2.wipe σ r).set j none) vs = L2.wipe σ vs
      rw [wipe_set (h j List.mem_cons_self), ih (fun i hi => h i (List.mem_cons_of_mem _ hi))]
  exact key vs (fun _ h => h) σ
def gYes : Rho → R Bool := fun _ => .ok true
def SemTs (X : Cx) (ifs : List Expr) (g : Rho → R Bool) : Prop := ∀ W, Takes X W → PTs X ifs (tPT X.K X.mg W g)
theorem sem_ts0 : SemTs X [] gYes := fun W tk => ⟨fun pins s σ H Q I ⟨ρ, env, post⟩ => pts_nil.run pins s σ H Q I (post true H (Same.refl H) rfl)⟩
theorem sem_ts1 {c : Expr} {gt : Rho → R Bool} (h : SemT X c gt) : SemTs X [c] gt := fun W tk => pts_one (h W tk)
def gLc (T : Tg) (own : List Nat) (gi : Rho → R (List PyData)) (tt : Rho → R Bool) (te : Rho → R PyData) : Rho → R PyData := fun ρ => (gi ρ).bd fun ds => if ds.length ≤ sizeLine then (lcD T tt te (wipeE ρ own) ds).bd fun ys => .ok (.list ys) else .stuck
abbrev W0 : WX := fun _ _ _ _ => False
theorem lc_rd {T : Tg} {own : List Nat} {gi : Rho → R (List PyData)} {tt : Rho → R Bool} {te : Rho → R PyData} {W : WX} (hT : ∀ i ∈ T.ix, i ∈ own) {Q : Addr → Hp → Prop} {σ : L2.St} {H : Hp} {ρ : Rho} (env : EnvR X.K H σ ρ)
    (post : PostG X.mg W σ H (rDp X.K) (fun v H' => ∀ D, v = .ref D → Q D H') (gLc T own gi tt te ρ)) :
    tPI X.K X.mg W gi σ H fun J H1 => ∀ D, H1 D = none → ∃ WW : Nat → Nat → Hp → Prop, (∃ m, WW 0 m (upd H1 D (.lst []))) ∧ ∀ i m H, WW i m H →
      (J.stop i H ∧ Q D H) ∨ (J.go i H ∧ ∃ Nx : Hp → Prop, (∀ H', Nx H' → ∃ m', m' < m ∧ WW (i + 1) m' H') ∧ ∀ x H', J.yld i H x H' → gTg X.K T x (L2.wipe σ own) H' fun σ2 H2 => L2.wipe σ2 own = L2.wipe σ own ∧ tPT X.K X.mg W0 tt σ2 H2 fun b H3 =>
        if b = true then tP X.K X.mg W0 te σ2 H3 fun y H4 => ∃ acc, H4 D = some (.lst acc) ∧ acc.length < sizeLine ∧ Nx (upd H4 D (.lst (acc ++ [y]))) else Nx H3) := by
  refine ⟨ρ, env, post.seq fun ds J H1 _ s1 y post1 => fun D hD => ?_⟩
  split at post1
  case isFalse => exact post1.elim
  rename_i hlen
  refine ⟨fun i m H' => m = ds.length - i ∧ i ≤ ds.length ∧ Same H1 H' ∧ ∃ acc done, H' D = some (.lst acc) ∧ DpAll X.K H' acc done ∧ noLs done = true ∧ done.length ≤ i ∧ PostG X.mg W σ H1 (rDp X.K) (fun v H' => ∀ D, v = .ref D → Q D H') ((lcD T tt te (wipeE ρ own) (ds.drop i)).bd fun ys => .ok (.list (done ++ ys))),
    ⟨_, rfl, Nat.zero_le _, same_upd hD, [], [], upd_same, .nil, by simp [noLs], Nat.zero_le _, post1⟩, fun i m H' ⟨em, hle, s', acc, done, hacc, hd, hn, hdl, er⟩ => ?_⟩
  by_cases hi : ds.length ≤ i
  · refine .inl ⟨by rw [Nat.le_antisymm hle hi]; exact y.stop H' (.of s'), ?_⟩
    rw [List.drop_of_length_le hi] at er
    exact er (.ref D) H' s' (by rw [List.append_nil]; exact .lst (SqL.of hacc) hd) D rfl
  · refine .inr ?_
    have hlt : i < ds.length := by omega
    have e : ds[i]? = some ds[i] := List.getElem?_eq_getElem hlt
    obtain ⟨h1, h2⟩ := y.go i H' _ (.of s') e
    refine ⟨h1, fun H2 => Same H1 H2 ∧ ∃ acc done, H2 D = some (.lst acc) ∧ DpAll X.K H2 acc done ∧ noLs done = true ∧ done.length ≤ i + 1 ∧ PostG X.mg W σ H1 (rDp X.K) (fun v H' => ∀ D, v = .ref D → Q D H') ((lcD T tt te (wipeE ρ own) (ds.drop (i + 1))).bd fun ys => .ok (.list (done ++ ys))),
      fun H2 ⟨sN, rN⟩ => ⟨_, by omega, rfl, hlt, sN, rN⟩, fun x H2 hx => ?_⟩
    obtain ⟨s2, r2⟩ := h2 x H2 hx
    rw [List.drop_eq_getElem_cons hlt] at er
    unfold lcD at er
    cases z : T.vals ds[i] with
    | none => rw [z] at er; exact er.elim
    | some xs =>
      rw [z] at er
      have envW : EnvR X.K H2 (L2.wipe σ own) (wipeE ρ own) := EnvR.wipe (env.same (s1.trans (s'.trans s2))) own
      refine ⟨_, xs, r2, z, fun vs hl hdv => ⟨by rw [wipe_sets hT, wipe_idem], _, envW.sets hdv, ?_⟩⟩
      dsimp only at er
      rw [R.bd_bd] at er
      refine PostG.calm (s'.trans s2) er fun b b' H3 s3 eb er => ?_
      subst eb
      cases b' with
      | false =>
        rw [if_neg Bool.false_ne_true] at er ⊢
        exact ⟨s'.trans (s2.trans s3), acc, done, s3 _ _ (s2 _ _ hacc), dpAll_same (s2.trans s3) hd, hn, Nat.le_succ_of_le hdl, er⟩
      | true =>
        rw [if_pos rfl] at er ⊢
        rw [R.bd_bd] at er
        refine ⟨_, (envW.sets hdv).same s3, PostG.calm ((s'.trans s2).trans s3) er fun d v H4 s4 rv er => ?_⟩
        by_cases hnd : noL d = true
        case neg => rw [if_neg hnd] at er; exact er.elim
        rw [if_pos hnd, R.bd_bd] at er
        have hacc4 : H4 D = some (.lst acc) := s4 _ _ (s3 _ _ (s2 _ _ hacc))
        have hd4 : DpAll X.K H4 acc done := dpAll_same (s2.trans (s3.trans s4)) hd
        have hl1 : acc.length = done.length := dpAll_length hd
        have sD : Same H1 (upd H4 D (.lst (acc ++ [v]))) := fun b u q => by
          rw [upd_ne (ne_of_none q hD)]
          exact s4 _ _ (s3 _ _ (s2 _ _ (s' _ _ q)))
        refine ⟨acc, hacc4, by omega, sD, acc ++ [v], done ++ [d], upd_same, dpAll_append (dpAll_imm (Tups.list hacc4) hn hd4) (.cons (dp_imm (Tups.list hacc4) hnd rv) .nil), ?_, ?_, ?_⟩
        · rw [noLs_append, hn]
          simp [noLs, hnd]
        · rw [List.length_append]
          simp only [List.length_cons, List.length_nil]
          omega
        · have e : ∀ ys : List PyData, done ++ [d] ++ ys = done ++ d :: ys := fun ys => by simp
          simp only [e]
          exact er
theorem sem_lc {elt iter : Expr} {ifs : List Expr} {scope : Scope} {own : List (Str × Nat)} {T : Tg} {gi : Rho → R (List PyData)} {tt : Rho → R Bool} {te : Rho → R PyData} (hN : X.N.Nodup) (hi : SemI X tg iter gi) (ok : BlkOk X.N X.env.scope scope own) (hT : ∀ i ∈ T.ix, i ∈ own.map (·.2))
    (hg : ∀ (s : Shared) (H : Hp) (C : Addr) (cl : List (Str × Addr)) (fp : List Addr), PG (X.blk s H scope (compEnvC scope cl C X.env) fp) tg (gTg X.K T)) (ht : ∀ (s : Shared) (H : Hp) (C : Addr) (cl : List (Str × Addr)) (fp : List Addr), SemTs (X.blk s H scope (compEnvC scope cl C X.env) fp) ifs tt)
    (he : ∀ (s : Shared) (H : Hp) (C : Addr) (cl : List (Str × Addr)) (fp : List Addr), SemE (X.blk s H scope (compEnvC scope cl C X.env) fp) elt te) (hc : X.calm = true := by rfl) (hs : ∀ x, foldedSetIterable iter X.env x = pure x := by intro _; rfl) :
    SemE X (.ListComp elt [⟨tg, iter, ifs, 0⟩] scope pos) (gLc T (own.map (·.2)) gi tt te) := fun W tk => by
  refine pe_imp (pe_lc hc hN (hi W tk) ok hg (tt := tPT X.K X.mg W0 tt) (te := tP X.K X.mg W0 te) (fun s H C cl fp => ht s H C cl fp W0 takes0) (fun s H C cl fp => he s H C cl fp W0 takes0) hs) fun σ H Q ⟨ρ, env, post⟩ => ?_
  exact lc_rd (Q := fun D H' => Q (.ref D) H') hT env (post.imp fun a v H1 _ _ r q D e => by subst e; exact q)
theorem sem_setLc {i : Nat} {y : Str} {py : Pos} {elt iter : Expr} {ifs : List Expr} {scope : Scope} {own : List (Str × Nat)} {spos : Pos} {T : Tg} {gi : Rho → R (List PyData)} {tt : Rho → R Bool} {te : Rho → R PyData} (hN : X.N.Nodup)
    (hsw : swapsWith (.ListComp elt [⟨tg, iter, ifs, 0⟩] scope pos) (some (.Name y py)) spos.line X.env = pure true) (hi : SemI X tg iter gi) (ok : BlkOk X.N X.env.scope scope own) (hT : ∀ i ∈ T.ix, i ∈ own.map (·.2))
    (hg : ∀ (s : Shared) (H : Hp) (C : Addr) (cl : List (Str × Addr)) (fp : List Addr), PG (X.blk s H scope (compEnvC scope cl C X.env) fp) tg (gTg X.K T)) (ht : ∀ (s : Shared) (H : Hp) (C : Addr) (cl : List (Str × Addr)) (fp : List Addr), SemTs (X.blk s H scope (compEnvC scope cl C X.env) fp) ifs tt)
    (he : ∀ (s : Shared) (H : Hp) (C : Addr) (cl : List (Str × Addr)) (fp : List Addr), SemE (X.blk s H scope (compEnvC scope cl C X.env) fp) elt te) (hy : X.N[i]? = some y := by rfl) (hyl : X.env.scope.names.lookup y = some .local := by rfl) (hc : X.calm = true := by rfl) (hs : ∀ x, foldedSetIterable iter X.env x = pure x := by intro _; rfl) :
    SemS X (.Assign [.Name y py] (.ListComp elt [⟨tg, iter, ifs, 0⟩] scope pos) spos) (sSet i (gLc T (own.map (·.2)) gi tt te)) := fun W tk => by
  refine ps_imp (ps_setLc hc hN hy hyl hsw (hi W tk.tk) ok hg (tt := tPT X.K X.mg W0 tt) (te := tP X.K X.mg W0 te) (fun s H C cl fp => ht s H C cl fp W0 takes0) (fun s H C cl fp => he s H C cl fp W0 takes0) hs) fun D σ H ⟨H0, Hb, ρ, env, post⟩ => ?_
  refine lc_rd (Q := fun a H' => D.nx (σ.set i (some (.ref a))) H') hT env.e (post_to env post fun d v H1 s r q a e => ?_)
  subst e
  exact q _ H1 ((env.same s).setD i r)
end

/-! ### a pure def keeps its promise -/
def startE (N : List Str) (ds : List PyData) : Rho := ds.map .d ++ List.replicate (N.length - ds.length) .u
theorem envR_start {K : PySem.W.Frag} {H : Hp} {N : List Str} {vs : List V} {ds : List PyData} (h : DpAll K H vs ds) : EnvR K H (L2.start N vs) (startE N ds) := by
  refine ⟨?_, Dst.none fun x hx => ?_⟩
  · unfold L2.start startE
    rw [dpAll_length h]
    have rep : ∀ n : Nat, EnvP K H (List.replicate n none) (List.replicate n .u) := by
      intro n
      induction n with
      | zero => exact .nil
      | succ n ih => exact .cons trivial ih
    have app : ∀ {vs : List V} {ds : List PyData}, DpAll K H vs ds → ∀ {ρ σ}, EnvP K H σ ρ → EnvP K H (vs.map some ++ σ) (ds.map .d ++ ρ) := by
      intro vs
      induction vs with
      | nil => intro ds h ρ σ e; cases h; exact e
      | cons v vs ih =>
        intro ds h ρ σ e
        cases h with
        | cons a r => exact .cons ⟨v, rfl, a⟩ (ih r e)
    exact app h (rep _)
  · unfold startE at hx
    rcases List.mem_append.mp hx with hx | hx
    · obtain ⟨d, _, rfl⟩ := List.mem_map.mp hx
      rfl
    · rw [(List.mem_replicate.mp hx).2]; rfl
theorem startE_noOwn {N : List Str} {ds : List PyData} : ∀ x ∈ startE N ds, isOwn x = false := fun x hx => by
  unfold startE at hx
  rcases List.mem_append.mp hx with hx | hx
  · obtain ⟨d, _, rfl⟩ := List.mem_map.mp hx
    rfl
  · rw [(List.mem_replicate.mp hx).2]; rfl
theorem tPS_of {K : PySem.W.Frag} {mg : Str → Option Value} {W : WX} {g : Rho → O} {D : Ends} {σ : L2.St} {H : Hp} {ρ : Rho} (env : EnvR K H σ ρ) (hno : ∀ x ∈ ρ, ∀ ds, x ≠ .o ds) (post : PostS K mg W D H H (g ρ)) : tPS K mg W g D σ H :=
  ⟨H, H, ρ, ⟨Same.refl H, .refl H, env, fun i ds a h _ => (hno _ (List.mem_of_getElem? h) ds rfl).elim⟩, post⟩
theorem own_start {N : List Str} {vs : List V} {ds : List PyData} {H : Hp} : Own H (L2.start N vs) (startE N ds) := fun i ds' a h _ => by
  have hx := List.mem_of_getElem? h
  unfold startE at hx
  rcases List.mem_append.mp hx with hx | hx
  · obtain ⟨d, _, e⟩ := List.mem_map.mp hx
    cases e
  · have := (List.mem_replicate.mp hx).2
    cases this
theorem envO_start {K : PySem.W.Frag} {H : Hp} {N : List Str} {vs : List V} {ds : List PyData} (h : DpAll K H vs ds) : EnvO K H H H (L2.start N vs) (startE N ds) := ⟨Same.refl H, .refl H, envR_start h, own_start⟩
/-- what a body computes -/
def O.done : O → R PyData
  | .rt d => .ok d
  | .nx _ => .ok .none
  | .exc n _ => .exc n
  | .stuck => .stuck
  | .ask n k => .ask n fun i => (k i).done
def runD (N : List Str) (g : Rho → O) (ds : List PyData) : R PyData := (g (startE N ds)).done
theorem post_done {K : PySem.W.Frag} {mg : Str → Option Value} {H : Hp} {Q : VK} {E : XK} {o : O} (post : PostF K mg H Q E o.done) : PostS K mg (fun cls d _ H => E cls d H) { nx := fun _ H' => Q .non H', rt := Q } H H o := by
  induction o with
  | nx ρ => exact fun σ' H' e => post .non H' e.s .non
  | rt d => exact post
  | exc nm ρ => exact fun C σ' H' e s' => post C H' e s'.s
  | stuck => exact post.elim
  | ask n k ih => exact fun i hi => ih i (post i hi)
theorem ok_pure {P : Program} {w : World} {K : PySem.W.Frag} {mg : Str → Option Value} {base : Heap} {k n : Nat} {x qual : Str} {params : Arguments} {body : List Stmt} {scope : Scope} {dvs : List V} {kws : List (Str × V)} {f : Addr} {fd : FuncData} {N ps : List Str} {g : Rho → O}
    (F : FunD K x qual params body scope dvs kws f fd) (S : FnScope N ps scope) (hn : ps.length = n)
    (hbody : ∀ (cdv : Value) (A : Around) (outer : List Env) (s : Shared) (H : Hp) (E : XK), Room k (A.deeper (envOfC qual scope s.heap.objs.size f cdv)) → SemSs (cxOf (L2.CX P w) P w K mg base N qual scope f cdv A outer s H E) body g) :
    FnOk P w K mg base (L2.CX P w) (k + 1) f fd ps (spP K mg n (runD N g)) := by
  refine F.ok S (fun vs H Q E h => by rw [hn]; exact h.1) fun cdv A outer s H vs Q E hr ⟨hl, ds, hd, post⟩ => ?_
  exact ⟨_, hbody cdv A outer s H E hr _ ⟨takes_of rfl rfl rfl rfl, passes_of rfl⟩, H, H, startE N ds, envO_start hd, post_done post⟩
end RL

namespace PySem
open Sem (wp)
/-! ### enumerate(v) of anything that begins -/
theorem meets_enumerate_new1 {v : Value} {o : Obj} {H : Heap → Prop} (B : Begins v o H) :
    Meets (Builtin.«enumerate.__new__» ⟨[.type "enumerate", v], []⟩) (fun _ R s => H s.heap ∧
      R (.ok (.ret (.ref (s.heap.push o).objs.size))) { s with heap := (s.heap.push o).push { cls := .type "enumerate", data := .fields #[.none, .bool false, .ref s.heap.objs.size, rawInt 0, .none, .none] } }) :=
  .of_wp fun prog w A R s h => by
    obtain ⟨hp, g, d, tk, os⟩ := s; obtain ⟨h1, h⟩ := h
    have hsub := sub_enumerate
    have q1 : ∀ {A' : Around} {E : Value → Shared → Prop} {Q : Value → Shared → Prop}, Q (.ref hp.objs.size) ⟨hp.push o, g, d, tk, os⟩ → wpAny (model prog w) A' (pyIter v) Q E ⟨hp, g, d, tk, os⟩ :=
      fun q => B.iter prog w _ _ ⟨hp, g, d, tk, os⟩ _ h1 q
    wp_walk using q1
    refine wpAny_stack_any fun st => wpAny_pure ?_
    split
    · rename_i c _ _ _ _ _
      cases (c == Value.type "enumerate")
      · wp_walk using q1
        exact ⟨_, rfl, h⟩
      · wp_walk using q1
        exact ⟨_, rfl, h⟩
    · wp_walk using q1
      exact ⟨_, rfl, h⟩
section
variable {prog : Program} {w : World} {A : Around} {E : Value → Shared → Prop} {s : Shared}
theorem enum_begins1 {v : Value} {o : Obj} {H : Heap → Prop} {Q : Value → Shared → Prop} (B : Begins v o H) (h1 : H s.heap)
    (h : ∀ h', IsEnum h' (s.heap.objs.size + 1) s.heap.objs.size 0 .none → h'.get? s.heap.objs.size = some o → h'.objs.size = s.heap.objs.size + 2 →
      (∀ b o, s.heap.get? b = some o → h'.get? b = some o) → Q (.ref (s.heap.objs.size + 1)) { s with heap := h' }) :
    wpAny (model prog w) A (call (.type "enumerate") [v]) Q E s := by
  refine callType_new F.called_enumerate (by decide) (F.typeCall_enumerate_1 _) (F.newCall_enumerate_1 _) (fun obj => F.args_object_init_2 obj _) F.entry_enumerate_new
    (meets_enumerate_new1 B) ⟨h1, ?_⟩
  have hz : (s.heap.push o).objs.size = s.heap.objs.size + 1 := Heap.size_push ..
  show _ ∧ _
  rw [hz]
  have he : IsEnum ((s.heap.push o).push { cls := .type "enumerate", data := .fields #[.none, .bool false, .ref s.heap.objs.size, rawInt 0, .none, .none] }) (s.heap.objs.size + 1) s.heap.objs.size 0 .none := by
    have := Heap.get?_push_size (s.heap.push o) (o := { cls := .type "enumerate", data := .fields #[.none, .bool false, .ref s.heap.objs.size, rawInt 0, .none, .none] }) rfl
    rw [hz] at this; exact this
  refine ⟨⟨_, he, rfl⟩, h _ he (Heap.get?_push_of_some _ (Heap.get?_push_size _ B.free)) (by rw [Heap.size_push, hz]) fun b o x => Heap.get?_push_of_some _ (Heap.get?_push_of_some _ x)⟩
end
end PySem
namespace RL
open PySem PySem.Spec PyProof.Rows L2

/-! ### a list, a tuple as a source -/
/-- what v draws is vs; St: its iterator's own state, at it -/
structure Src (P : Program) (w : World) (K : PySem.W.Frag) (Gd : Hp → Prop) (v : V) (vs : List V) (it : Addr) (St : Nat → Heap → Prop) : Prop where
  obj : ∀ i h, St i h → ∃ o, h.get? it = some o ∧ ∀ c, o.data ≠ .cell c
  keep : ∀ i h h', St i h → (∀ o, h.get? it = some o → h'.get? it = some o) → St i h'
  dr : ∀ (X : Cx) (pins : List (Addr × Obj)) (σ : L2.St) (H : Hp) (s : Shared), X.prog = P → X.w = w → X.K = K → Inv X pins σ H s → Gd H → FpOk X pins H it → ∃ (its : List Value) (a : Addr) (GH : Heap → Prop), Vals vs its ∧ GH s.heap ∧ (∀ b, FpOk X pins H b → b ≠ a) ∧
    ∀ A : Around, A.handled = none → Draws P w A it [it, a] its.length (fun i u => its[i]? = some u) (fun i h => St i h ∧ GH h)
theorem fp_ne {X : Cx} {pins : List (Addr × Obj)} {σ : L2.St} {H : Hp} {s : Shared} (I : Inv X pins σ H s) {a : Addr} (h : (∃ u, H a = some u) ∨ ∃ o, X.K.lookup a = some o) {b : Addr} (f : FpOk X pins H b) : b ≠ a := by
  rintro rfl
  rcases h with ⟨u, h⟩ | ⟨o, h⟩
  · rw [f.1] at h; cases h
  · have hb := I.ok.mod.kin _ _ h
    rcases f.2.2.2.1 with hx | hx
    · exact I.ok.noex _ _ hb hx
    · exact absurd (Nat.lt_of_lt_of_le (Heap.lt_size (I.ok.bs _ _ hb).1) hx) (Nat.lt_irrefl _)
theorem SqL.there {K : PySem.W.Frag} {H : Hp} {a : Addr} {xs : List V} (h : SqL K H a xs) : (∃ u, H a = some u) ∨ ∃ o, K.lookup a = some o := by
  rcases h with (h | ⟨o, h⟩) | ⟨o, its, n, h, _⟩
  · exact .inl ⟨_, h⟩
  · exact .inl ⟨_, h⟩
  · exact .inr ⟨_, h⟩
theorem SqT.there {K : PySem.W.Frag} {H : Hp} {a : Addr} {xs : List V} (h : SqT K H a xs) : (∃ u, H a = some u) ∨ ∃ o, K.lookup a = some o := by
  rcases h with (h | ⟨o, h⟩) | ⟨o, its, n, h, _⟩
  · exact .inl ⟨_, h⟩
  · exact .inl ⟨_, h⟩
  · exact .inr ⟨_, h⟩
theorem src_list {P : Program} {w : World} {K : PySem.W.Frag} {a it : Addr} {vs : List V} : Src P w K (fun H => SqL K H a vs) (.ref a) vs it (fun i h => h.IsListIter it a i) where
  obj := fun i h ⟨o, ho, hc, hd⟩ => ⟨o, ho, fun c e => by rw [hd] at e; cases e⟩
  keep := fun i h h' st k => st.at k
  dr := fun X pins σ H s hP hw hK I hq hf => by
    subst hP hw hK
    obtain ⟨its, rv, p, _⟩ := I.list hq
    refine ⟨its, a, fun h => h.IsList a its.toArray, rv, p.isList, fun b f => fp_ne I (SqL.there hq) f, fun A hh => ?_⟩
    have D := Draws.list (prog := X.prog) (w := X.w) hh it a (Ne.symm (fp_ne I (SqL.there hq) hf)) its.toArray
    simpa using D
theorem src_tup {P : Program} {w : World} {K : PySem.W.Frag} {a it : Addr} {vs : List V} : Src P w K (fun H => SqT K H a vs) (.ref a) vs it (fun i h => h.IsTupleIter it a i) where
  obj := fun i h ⟨o, ho, hc, hd⟩ => ⟨o, ho, fun c e => by rw [hd] at e; cases e⟩
  keep := fun i h h' st k => st.at k
  dr := fun X pins σ H s hP hw hK I hq hf => by
    subst hP hw hK
    obtain ⟨its, rv, p, _⟩ := I.tuple hq
    refine ⟨its, a, fun h => h.IsTuple a its.toArray, rv, p, fun b f => fp_ne I (SqT.there hq) f, fun A hh => ?_⟩
    have D := Draws.tuple (prog := X.prog) (w := X.w) hh it a (Ne.symm (fp_ne I (SqT.there hq) hf)) its.toArray
    simpa using D
/-! ### enumerate -/
def ItE (Gd : Hp → Prop) (vs : List V) : It :=
  ⟨fun i H => Gd H ∧ i < vs.length, fun i H v H' => ∃ T x, v = .ref T ∧ H T = none ∧ H' = upd H T (.tup [.int (i : Nat), x]) ∧ vs[i]? = some x, fun i H => Gd H ∧ i = vs.length⟩
theorem turn_enumS {P : Program} {w : World} {K : PySem.W.Frag} {elts : List Expr} {kk : Nat} {tpos : Pos} {Gd : Hp → Prop} {v : V} {vs : List V} {e it : Addr} {St : Nat → Heap → Prop} (S : Src P w K Gd v vs it St) :
    Turn P w K (.Tuple elts kk tpos) (ItE Gd vs) [e, it] e (fun i h => (∃ old, IsEnum h e it ((i : Nat) : Int) old) ∧ St i h ∧ e ≠ it) where
  mem := by simp
  obj := fun i h st b hb => by
    obtain ⟨⟨old, he⟩, hst, _⟩ := st
    have e' : b = e ∨ b = it := by simpa using hb
    rcases e' with z | z
    · rw [z]; exact ⟨_, he, fun v q => nomatch q⟩
    · rw [z]; exact S.obj i h hst
  keep := fun i h h' st k => let ⟨⟨old, he⟩, hi, hne⟩ := st; ⟨⟨old, k e (by simp) _ he⟩, S.keep i h h' hi (fun o q => k it (by simp) o q), hne⟩
  item := by
    intro X hP hw hK hc i pins s σ H E I hf st hg
    obtain ⟨⟨old, he⟩, hit, hne⟩ := st
    obtain ⟨hG, hlt⟩ := hg
    obtain ⟨its, a, GH, rv, hgh, hfa, D⟩ := S.dr X pins σ H s hP hw hK I hG (hf it (by simp))
    subst hP hw hK
    have hel : e < s.heap.objs.size := Heap.lt_size he
    have hil : it < s.heap.objs.size := by obtain ⟨o, q, _⟩ := S.obj i _ hit; exact Heap.lt_size q
    have hl := rv.length
    have hea : e ≠ a := hfa e (hf e (by simp))
    refine wpAny_pyNext_enum_itemD (D X.A.in1 (I.ok.hd hc)) he ⟨hit, hgh⟩ (by omega) hne (by simp [hne, hea]) fun u h' tk hu ho hst' hT hsz hk => ?_
    obtain ⟨x, hx, ru⟩ : ∃ x, vs[i]? = some x ∧ RelV x u := by
      obtain ⟨u', hu', ru'⟩ := rv.get (List.getElem?_eq_getElem hlt)
      rw [hu] at hu'
      cases hu'
      exact ⟨_, List.getElem?_eq_getElem hlt, ru'⟩
    refine ⟨_, rfl, wpAny_letOwnedTupleGo_enum (s := { s with heap := h', toks := tk + 1 }) ho fun h'' he' sb => ?_⟩
    have hT2 : h''.get? s.heap.objs.size = some { cls := .type "tuple", data := .seq #[.int i tk, u] } := (sb.2 _ (Nat.ne_of_gt hel)).trans hT
    have new : ObjOk X.prog X.w (upd H s.heap.objs.size (.tup [.int (i : Nat), x])) h'' s.heap.objs.size (.tup [.int (i : Nat), x]) :=
      ⟨by show 2 ≤ sizeLine; decide, [.int i tk, u], .cons ⟨_, rfl⟩ (.cons ru .nil), ⟨_, hT2, rfl, _, rfl⟩⟩
    have I1 : Inv X pins σ (upd H s.heap.objs.size (.tup [.int (i : Nat), x])) { s with heap := h'', toks := tk + 1 } :=
      I.turnedNew (ch := [e, it]) (fun b ob hb q => (sb.2 b (fun z => hb (by simp [z]))).trans (hk b ob (fun z => hb (by simp [z])) (fun z => hb (by simp [z])) q)) hf (Nat.le_refl _) new
    refine ⟨.ref s.heap.objs.size, _, I1, rfl, ⟨_, x, rfl, I.hok.fresh (Nat.le_refl _), rfl, hx⟩, ⟨⟨u, ?_⟩, S.keep _ h' h'' hst'.1 (fun o q => (sb.2 it (Ne.symm hne)).trans q), hne⟩, fun b hb => ?_⟩
    · have e1 : ((i + 1 : Nat) : Int) = (i : Int) + 1 := by omega
      rw [e1]; exact he'
    · have hb' : b < s.heap.objs.size := by
        have e' : b = e ∨ b = it := by simpa using hb
        rcases e' with z | z
        · rw [z]; exact hel
        · rw [z]; exact hil
      rw [upd_ne (Nat.ne_of_lt hb')]
      exact (hf b hb).1
  done := by
    intro X hP hw hK hc i pins s σ H E I hf st hg
    obtain ⟨⟨old, he⟩, hit, hne⟩ := st
    obtain ⟨hG, hlt⟩ := hg
    obtain ⟨its, a, GH, rv, hgh, hfa, D⟩ := S.dr X pins σ H s hP hw hK I hG (hf it (by simp))
    subst hP hw hK
    obtain ⟨f0, f1, f2, f3, f4, f5⟩ := hf it (by simp)
    have hl := rv.length
    have ei : i = its.length := by omega
    subst ei
    exact wpAny_pyNext_enum_endD (D X.A.in1 (I.ok.hd hc)) he ⟨hit, hgh⟩ fun h' eb => ⟨rfl, I.turned (t' := s.toks) (fun b o hb q => eb b o hb q) f0 f1 f3 f4 f5⟩
  self := fun A i s Q E st h => let ⟨⟨_, he⟩, _⟩ := st; wpAny_pyIter_enum he h
/-- what begins: v's iterator -/
structure SrcB (P : Program) (w : World) (K : PySem.W.Frag) (Gd : Hp → Prop) (v : V) (vs : List V) : Prop where
  begins : ∀ (X : Cx) (pins : List (Addr × Obj)) (σ : L2.St) (H : Hp) (s : Shared) (u : Value), X.prog = P → X.w = w → X.K = K → Inv X pins σ H s → Gd H → RelV v u → ∃ (o : Obj) (BH : Heap → Prop), Begins u o BH ∧ BH s.heap ∧
    ∀ it : Addr, ∃ St : Nat → Heap → Prop, Src P w K Gd v vs it St ∧ ∀ h, h.get? it = some o → St 0 h
theorem srcB_list {P : Program} {w : World} {K : PySem.W.Frag} {a : Addr} {vs : List V} : SrcB P w K (fun H => SqL K H a vs) (.ref a) vs where
  begins := fun X pins σ H s u hP hw hK I hq r => by
    subst hP hw hK
    obtain ⟨its, rv, p, _⟩ := I.list hq
    cases r
    exact ⟨_, _, begins_list a its.toArray, p.isList, fun it => ⟨_, src_list, fun h e => ⟨_, e, rfl, rfl⟩⟩⟩
theorem srcB_tup {P : Program} {w : World} {K : PySem.W.Frag} {a : Addr} {vs : List V} : SrcB P w K (fun H => SqT K H a vs) (.ref a) vs where
  begins := fun X pins σ H s u hP hw hK I hq r => by
    subst hP hw hK
    obtain ⟨its, rv, p, _⟩ := I.tuple hq
    cases r
    exact ⟨_, _, begins_tuple a its.toArray, p, fun it => ⟨_, src_tup, fun h e => ⟨_, e, rfl, rfl⟩⟩⟩
def iEnumS (P : Program) (w : World) (K : PySem.W.Frag) (ta : TA) : TI := fun σ H R => ta σ H fun xs H1 => ∃ v vs Gd, xs = [v] ∧ SrcB P w K Gd v vs ∧ Gd H1 ∧ R (ItE Gd vs) H1
theorem pi_enumS {X : Cx} {e : Expr} {ta : TA} {p pos tpos : Pos} {elts : List Expr} {kk : Nat} (hg : Gl X "enumerate") (hm : X.mg "enumerate" = none) (ha : PA X [e] ta) (hs : starEach [e] X.env = [(false, eval e X.env)] := by rfl) :
    PI X (.Tuple elts kk tpos) (.Call (.Name "enumerate" p) [e] [] pos) (iEnumS X.prog X.w X.K ta) := by
  refine ⟨fun pins s σ H R I h => ?_⟩
  refine Call_ (ld_blt I hg hm boot_enumerate (PyProof.Rows.callWith_type1 (thn (ha.run pos pins s σ H _ I h) fun us s1 ⟨xs, H1, I1, r1, q1⟩ => ?_) hs rfl))
  obtain ⟨v, vs, Gd, ex, B, hG, q⟩ := q1
  subst ex
  cases r1 with
  | cons r rr =>
    cases rr
    obtain ⟨o, BH, Bg, hB, hS⟩ := B.begins X pins σ H1 s1 _ rfl rfl rfl I1 hG r
    obtain ⟨St, S, hst0⟩ := hS s1.heap.objs.size
    refine enum_begins1 Bg hB fun h' he hit hsz hk => wpAny_pyIter_enum he ?_
    have I2 : Inv X pins σ H1 { s1 with heap := h' } := I1.kept (t' := s1.toks) hk
    refine ⟨s1.heap.objs.size + 1, [s1.heap.objs.size + 1, s1.heap.objs.size], _, _, H1, rfl, I2, turn_enumS S, ⟨⟨.none, he⟩, hst0 _ hit, Nat.succ_ne_self _⟩, fun b hb => ?_, q⟩
    have e' : b = s1.heap.objs.size + 1 ∨ b = s1.heap.objs.size := by simpa using hb
    have hle : s1.heap.objs.size ≤ b := by
      rcases e' with z | z
      · rw [z]; exact Nat.le_add_right _ _
      · rw [z]; exact Nat.le_refl _
    exact I1.fpOk hle (I1.hok.fresh hle)
def enumL : Nat → List PyData → List PyData
  | _, [] => []
  | i, d :: ds => .tuple [.int (i : Int), d] :: enumL (i + 1) ds
theorem enumL_get : ∀ {ds : List PyData} {j i : Nat}, (enumL j ds)[i]? = (ds[i]?).map fun d => .tuple [.int ((j + i : Nat) : Int), d]
  | [], j, i => by simp [enumL]
  | d :: ds, j, 0 => by simp [enumL]
  | d :: ds, j, i + 1 => by
    rw [enumL, List.getElem?_cons_succ, List.getElem?_cons_succ, enumL_get, show j + 1 + i = j + (i + 1) by omega]
theorem enumL_length : ∀ {ds : List PyData} {j : Nat}, (enumL j ds).length = ds.length
  | [], _ => rfl
  | d :: ds, j => by rw [enumL, List.length_cons, List.length_cons, enumL_length]
theorem yields_enum {K : PySem.W.Frag} {H0 : Hp} {Gd : Hp → Prop} {vs : List V} {ds : List PyData} (hg : ∀ H, Grow H0 H → Gd H) (hd : DpAll K H0 vs ds) : Yields K H0 (ItE Gd vs) (enumL 0 ds) :=
  ⟨fun i H d s e => by
    rw [enumL_get] at e
    obtain ⟨d', e1, rfl⟩ := Option.map_eq_some_iff.mp e
    obtain ⟨v, h1, h2⟩ := dpAll_get hd e1
    refine ⟨⟨hg H s, (List.getElem?_eq_some_iff.mp h1).1⟩, fun x H' ⟨T, y, ex, hT, eH, hy⟩ => ?_⟩
    subst ex eH
    rw [h1] at hy
    cases hy
    refine ⟨same_upd hT, .tup (SqT.of upd_same) (.cons ?_ (.cons (dp_grow (s.trans (.of (same_upd hT))) h2) .nil))⟩
    rw [Nat.zero_add]
    exact .int _, fun H s => ⟨hg H s, by rw [enumL_length, dpAll_length hd]⟩⟩
section
variable {X : Cx} {e a b : Expr} {g ga gb : Rho → R PyData} {pos : Pos}
theorem srcB_dp {P : Program} {w : World} {K : PySem.W.Frag} {H : Hp} {v : V} {d : PyData} {ds : List PyData} (h : Dp K H v d) (e : asSeq d = some ds) : ∃ vs Gd, SrcB P w K Gd v vs ∧ (∀ H', Grow H H' → Gd H') ∧ DpAll K H vs ds := by
  cases h with
  | lst hs ha => cases e; exact ⟨_, _, srcB_list, fun H' s => SqL.grow s hs, ha⟩
  | tup hs ha => cases e; exact ⟨_, _, srcB_tup, fun H' s => SqT.grow s hs, ha⟩
  | _ => cases e
def iEn (ga : Rho → R PyData) : Rho → R (List PyData) := fun ρ => (ga ρ).bd fun x => R.of ((asSeq x).map (enumL 0))
theorem sem_enum {p tpos : Pos} {elts : List Expr} {kk : Nat} (hm : X.mg "enumerate" = none) (ha : SemE X a ga) (hg : Gl X "enumerate" := by rfl) (hs : starEach [a] X.env = [(false, eval a X.env)] := by rfl) : SemI X (.Tuple elts kk tpos) (.Call (.Name "enumerate" p) [a] [] pos) (iEn ga) := fun W tk =>
  pi_imp (pi_enumS hg hm (pa_cons (ha W tk) pa_nil hs) hs) fun σ H R ⟨ρ, env, post⟩ => ⟨ρ, env, post.seq fun x v H1 _ s1 r1 post1 => by
    obtain ⟨ds, e, q⟩ := post1.use
    obtain ⟨xs, e1, rfl⟩ := Option.map_eq_some_iff.mp e
    obtain ⟨vs, Gd, B, hG, hd⟩ := srcB_dp (P := X.prog) (w := X.w) r1 e1
    exact ⟨v, vs, Gd, rfl, B, hG H1 (.refl H1), q _ _ (Same.refl H1) (yields_enum hG hd)⟩⟩

/-! ### zip -/
def ItZ (G1 G2 : Hp → Prop) (vs ws : List V) : It :=
  ⟨fun i H => G1 H ∧ G2 H ∧ i < vs.length ∧ i < ws.length, fun i H v H' => ∃ T x y, v = .ref T ∧ H T = none ∧ H' = upd H T (.tup [x, y]) ∧ vs[i]? = some x ∧ ws[i]? = some y, fun i H => G1 H ∧ G2 H ∧ i = min vs.length ws.length⟩
structure Sep (z TI TO i1 i2 : Addr) : Prop where
  a1 : TI ≠ z
  a2 : TO ≠ z
  a3 : TI ≠ TO
  a4 : TI ≠ i1
  a5 : TI ≠ i2
  a6 : z ≠ i1
  a7 : z ≠ i2
  a8 : TO ≠ i1
  a9 : TO ≠ i2
  a10 : i1 ≠ i2
theorem turn_zipS {P : Program} {w : World} {K : PySem.W.Frag} {elts : List Expr} {kk : Nat} {tpos : Pos} {G1 G2 : Hp → Prop} {v1 v2 : V} {vs ws : List V} {z TI TO i1 i2 : Addr} {St1 St2 : Nat → Heap → Prop} (S1 : Src P w K G1 v1 vs i1 St1) (S2 : Src P w K G2 v2 ws i2 St2) (D : Sep z TI TO i1 i2) :
    Turn P w K (.Tuple elts kk tpos) (ItZ G1 G2 vs ws) [z, TI, TO, i1, i2] z (fun i h => IsZip h z TI TO .none ∧ IsTupOf2 h TI (.ref i1) (.ref i2) ∧ (∃ x y, IsTupOf2 h TO x y) ∧ St1 i h ∧ St2 i h) where
  mem := by simp
  obj := fun i h st c hc => by
    obtain ⟨hz, hTI, ⟨x, y, hTO⟩, s1, s2⟩ := st
    have e' : c = z ∨ c = TI ∨ c = TO ∨ c = i1 ∨ c = i2 := by simpa using hc
    rcases e' with q | q | q | q | q
    · rw [q]; exact ⟨_, hz, fun v q => nomatch q⟩
    · rw [q]; exact ⟨_, hTI, fun v q => nomatch q⟩
    · rw [q]; exact ⟨_, hTO, fun v q => nomatch q⟩
    · rw [q]; exact S1.obj i h s1
    · rw [q]; exact S2.obj i h s2
  keep := fun i h h' st k => by
    obtain ⟨hz, hTI, ⟨x, y, hTO⟩, h1, h2⟩ := st
    exact ⟨k z (by simp) _ hz, k TI (by simp) _ hTI, ⟨x, y, k TO (by simp) _ hTO⟩, S1.keep i h h' h1 fun o q => k i1 (by simp) o q, S2.keep i h h' h2 fun o q => k i2 (by simp) o q⟩
  item := by
    intro X hP hw hK hc i pins s σ H E I hf st hg
    obtain ⟨hz, hTI, ⟨x0, y0, hTO⟩, h1, h2⟩ := st
    obtain ⟨hG1, hG2, hl1, hl2⟩ := hg
    obtain ⟨its, a, GH, rv, hgh, hfa, D1⟩ := S1.dr X pins σ H s hP hw hK I hG1 (hf i1 (by simp))
    obtain ⟨its2, b, GH2, rv2, hgh2, hfb, D2⟩ := S2.dr X pins σ H s hP hw hK I hG2 (hf i2 (by simp))
    subst hP hw hK
    have hlen := rv.length
    have hlen2 := rv2.length
    have hzl : z < s.heap.objs.size := Heap.lt_size hz
    have sep : ZipSep2 z TI TO i1 i2 [i1, a] [i2, b] := ⟨D.a1, D.a2, D.a3, D.a4, by simp, by simp [D.a6, hfa z (hf z (by simp))], by simp [D.a8, hfa TO (hf TO (by simp))], D.a5, by simp, by simp [D.a7, hfb z (hf z (by simp))], by simp [D.a9, hfb TO (hf TO (by simp))], by simp [D.a10, hfb i1 (hf i1 (by simp))], by simp [Ne.symm D.a10, hfa i2 (hf i2 (by simp))]⟩
    refine wpAny_pyNext_zipD2_item sep (D1 X.A.in1 (I.ok.hd hc)) (D2 X.A.in1 (I.ok.hd hc)) hz hTI hTO ⟨h1, hgh⟩ ⟨h2, hgh2⟩ (by omega) (by omega) fun u u2 h' tk hu hu2 z' TO' h1' h2' hT hsz hk => ?_
    obtain ⟨x, hx, ru⟩ : ∃ x, vs[i]? = some x ∧ RelV x u := by
      obtain ⟨u', hu', ru'⟩ := rv.get (List.getElem?_eq_getElem hl1)
      rw [hu] at hu'
      cases hu'
      exact ⟨_, List.getElem?_eq_getElem hl1, ru'⟩
    obtain ⟨y, hy, ru2⟩ : ∃ x, ws[i]? = some x ∧ RelV x u2 := by
      obtain ⟨u', hu', ru'⟩ := rv2.get (List.getElem?_eq_getElem hl2)
      rw [hu2] at hu'
      cases hu'
      exact ⟨_, List.getElem?_eq_getElem hl2, ru'⟩
    refine ⟨_, rfl, wpAny_letOwnedTupleGo_zip (s := { s with heap := h', toks := tk }) z' fun h'' z'' sb => ?_⟩
    have hT2 : h''.get? s.heap.objs.size = some { cls := .type "tuple", data := .seq #[u, u2] } := (sb.2 _ (Nat.ne_of_gt hzl)).trans hT
    have new : ObjOk X.prog X.w (upd H s.heap.objs.size (.tup [x, y])) h'' s.heap.objs.size (.tup [x, y]) :=
      ⟨by show 2 ≤ sizeLine; decide, [u, u2], .cons ru (.cons ru2 .nil), ⟨_, hT2, rfl, _, rfl⟩⟩
    have I1 : Inv X pins σ (upd H s.heap.objs.size (.tup [x, y])) { s with heap := h'', toks := tk } :=
      I.turnedNew (ch := [z, TI, TO, i1, i2]) (fun c o hb q => (sb.2 c (fun q' => hb (by simp [q']))).trans (hk c o (fun q' => hb (by simp [q'])) (fun q' => hb (by simp [q'])) (fun q' => hb (by simp [q'])) (fun q' => hb (by simp [q'])) q)) hf (Nat.le_refl _) new
    refine ⟨.ref s.heap.objs.size, _, I1, rfl, ⟨_, x, y, rfl, I.hok.fresh (Nat.le_refl _), rfl, hx, hy⟩, ⟨z'', ?_, ⟨u, u2, ?_⟩, S1.keep _ h' h'' h1'.1 (fun o q => (sb.2 _ (Ne.symm D.a6)).trans q), S2.keep _ h' h'' h2'.1 (fun o q => (sb.2 _ (Ne.symm D.a7)).trans q)⟩, fun c hcm => ?_⟩
    · exact (sb.2 _ D.a1).trans (hk _ _ D.a1 D.a3 D.a4 D.a5 hTI)
    · exact (sb.2 _ D.a2).trans TO'
    · have hlt : c < s.heap.objs.size := by
        have e' : c = z ∨ c = TI ∨ c = TO ∨ c = i1 ∨ c = i2 := by simpa using hcm
        rcases e' with q | q | q | q | q
        · rw [q]; exact hzl
        · rw [q]; exact Heap.lt_size hTI
        · rw [q]; exact Heap.lt_size hTO
        · rw [q]; obtain ⟨_, e1, _⟩ := S1.obj i _ h1; exact Heap.lt_size e1
        · rw [q]; obtain ⟨_, e2, _⟩ := S2.obj i _ h2; exact Heap.lt_size e2
      rw [upd_ne (Nat.ne_of_lt hlt)]
      exact (hf c hcm).1
  done := by
    intro X hP hw hK hc i pins s σ H E I hf st hg
    obtain ⟨hz, hTI, ⟨x0, y0, hTO⟩, h1, h2⟩ := st
    obtain ⟨hG1, hG2, hl⟩ := hg
    obtain ⟨its, a, GH, rv, hgh, hfa, D1⟩ := S1.dr X pins σ H s hP hw hK I hG1 (hf i1 (by simp))
    obtain ⟨its2, b, GH2, rv2, hgh2, hfb, D2⟩ := S2.dr X pins σ H s hP hw hK I hG2 (hf i2 (by simp))
    subst hP hw hK
    have hlen := rv.length
    have hlen2 := rv2.length
    have sep : ZipSep2 z TI TO i1 i2 [i1, a] [i2, b] := ⟨D.a1, D.a2, D.a3, D.a4, by simp, by simp [D.a6, hfa z (hf z (by simp))], by simp [D.a8, hfa TO (hf TO (by simp))], D.a5, by simp, by simp [D.a7, hfb z (hf z (by simp))], by simp [D.a9, hfb TO (hf TO (by simp))], by simp [D.a10, hfb i1 (hf i1 (by simp))], by simp [Ne.symm D.a10, hfa i2 (hf i2 (by simp))]⟩
    refine wpAny_pyNext_zipD2_end sep (D1 X.A.in1 (I.ok.hd hc)) (D2 X.A.in1 (I.ok.hd hc)) hz hTI hTO ⟨h1, hgh⟩ ⟨h2, hgh2⟩ (by omega) (by omega) (by omega) fun h' tk hk => ⟨rfl, ?_⟩
    exact I.turnedL (t' := tk) (ch := [z, TI, TO, i1, i2]) (fun c o hb q => hk c o (fun q' => hb (by simp [q'])) (fun q' => hb (by simp [q'])) (fun q' => hb (by simp [q'])) (fun q' => hb (by simp [q'])) q) hf
  self := fun A i s Q E st h => wpAny_pyIter_zip st.1 h
theorem nk (n : Nat) {a b : Nat} (h : a ≠ b) : n + a ≠ n + b := fun e => h (Nat.add_left_cancel e)
theorem nk0 (n : Nat) {a : Nat} (h : a ≠ 0) : n + a ≠ n := fun e => h (Nat.add_left_cancel (show n + a = n + 0 from e))
theorem sep_new (n : Nat) : Sep (n + 4) (n + 2) (n + 3) n (n + 1) :=
  ⟨nk n (by decide), nk n (by decide), nk n (by decide), nk0 n (by decide), nk n (by decide), nk0 n (by decide), nk n (by decide), nk0 n (by decide), nk n (by decide), Ne.symm (nk0 n (by decide))⟩
def iZipS (P : Program) (w : World) (K : PySem.W.Frag) (ta : TA) : TI := fun σ H R => ta σ H fun xs H1 => ∃ v vs G1 v2 ws G2, xs = [v, v2] ∧ SrcB P w K G1 v vs ∧ SrcB P w K G2 v2 ws ∧ G1 H1 ∧ G2 H1 ∧ R (ItZ G1 G2 vs ws) H1
theorem pi_zipS {X : Cx} {e e2 : Expr} {ta : TA} {p pos tpos : Pos} {elts : List Expr} {kk : Nat} (hg : Gl X "zip") (hm : X.mg "zip" = none) (ha : PA X [e, e2] ta) (hs : starEach [e, e2] X.env = (false, eval e X.env) :: starEach [e2] X.env := by rfl) (hpl : (backTo pos (starEach [e2] X.env)).any (·.1) = false := by rfl) :
    PI X (.Tuple elts kk tpos) (.Call (.Name "zip" p) [e, e2] [] pos) (iZipS X.prog X.w X.K ta) := by
  refine ⟨fun pins s σ H R I h => ?_⟩
  refine wpAny_Call_Name_kw (ld_blt I hg hm boot_zip (PyProof.Rows.callWith_type1 (thn (ha.run pos pins s σ H _ I h) fun us s1 ⟨xs, H1, I1, r1, q1⟩ => ?_) hs hpl))
  obtain ⟨v, vs, G1, v2, ws, G2, ex, B1, B2, hG1, hG2, q⟩ := q1
  subst ex
  obtain ⟨u, u2, rfl, r, r2⟩ := Vals.two r1
  obtain ⟨o, BH, Bg, hB, hS⟩ := B1.begins X pins σ H1 s1 _ rfl rfl rfl I1 hG1 r
  obtain ⟨o2, BH2, Bg2, hB2, hS2⟩ := B2.begins X pins σ H1 s1 _ rfl rfl rfl I1 hG2 r2
  obtain ⟨St, S, hst0⟩ := hS s1.heap.objs.size
  obtain ⟨St2, S2, hst02⟩ := hS2 (s1.heap.objs.size + 1)
  refine zip_begins2 Bg Bg2 hB hB2 fun h' hz hTI hTO hi1 hi2 hsz hk => wpAny_pyIter_zip hz ?_
  have I2 : Inv X pins σ H1 { s1 with heap := h' } := I1.kept (t' := s1.toks) hk
  have sep : ∀ n : Nat, Sep (n + 4) (n + 2) (n + 3) n (n + 1) := sep_new
  refine ⟨s1.heap.objs.size + 4, [s1.heap.objs.size + 4, s1.heap.objs.size + 2, s1.heap.objs.size + 3, s1.heap.objs.size, s1.heap.objs.size + 1], _, _, H1, rfl, I2, turn_zipS S S2 (sep _), ⟨hz, hTI, ⟨_, _, hTO⟩, hst0 _ hi1, hst02 _ hi2⟩, fun b hb => ?_, q⟩
  have hle : s1.heap.objs.size ≤ b := by
    have le : ∀ n k : Nat, n ≤ n + k := fun n k => Nat.le_add_right n k
    have e' : b = s1.heap.objs.size + 4 ∨ b = s1.heap.objs.size + 2 ∨ b = s1.heap.objs.size + 3 ∨ b = s1.heap.objs.size ∨ b = s1.heap.objs.size + 1 := by simpa using hb
    rcases e' with q | q | q | q | q <;> rw [q]
    · exact le _ _
    · exact le _ _
    · exact le _ _
    · exact Nat.le_refl _
    · exact le _ _
  exact I1.fpOk hle (I1.hok.fresh hle)
def zipL : List PyData → List PyData → List PyData
  | d :: ds, e :: es => .tuple [d, e] :: zipL ds es
  | _, _ => []
theorem zipL_get : ∀ {ds es : List PyData} {i : Nat} {x : PyData}, (zipL ds es)[i]? = some x → ∃ d e, ds[i]? = some d ∧ es[i]? = some e ∧ x = .tuple [d, e]
  | [], es, i, x, h => by simp [zipL] at h
  | d :: ds, [], i, x, h => by simp [zipL] at h
  | d :: ds, e :: es, 0, x, h => by
    have h' : PyData.tuple [d, e] = x := Option.some.inj h
    exact ⟨d, e, rfl, rfl, h'.symm⟩
  | d :: ds, e :: es, i + 1, x, h => by
    obtain ⟨d', e', h1, h2, h3⟩ := zipL_get (ds := ds) (es := es) (i := i) (x := x) (by simpa [zipL] using h)
    exact ⟨d', e', by simpa using h1, by simpa using h2, h3⟩
theorem zipL_length : ∀ {ds es : List PyData}, (zipL ds es).length = min ds.length es.length
  | [], es => by simp [zipL]
  | d :: ds, [] => by simp [zipL]
  | d :: ds, e :: es => by rw [zipL, List.length_cons, List.length_cons, List.length_cons, zipL_length]; omega
theorem yields_zip {K : PySem.W.Frag} {H0 : Hp} {G1 G2 : Hp → Prop} {vs ws : List V} {ds es : List PyData} (hg : ∀ H, Grow H0 H → G1 H) (hg2 : ∀ H, Grow H0 H → G2 H) (hd : DpAll K H0 vs ds) (he : DpAll K H0 ws es) : Yields K H0 (ItZ G1 G2 vs ws) (zipL ds es) :=
  ⟨fun i H d s e => by
    obtain ⟨d1, d2, e1, e2, rfl⟩ := zipL_get e
    obtain ⟨v, h1, h2⟩ := dpAll_get hd e1
    obtain ⟨u, h3, h4⟩ := dpAll_get he e2
    refine ⟨⟨hg H s, hg2 H s, (List.getElem?_eq_some_iff.mp h1).1, (List.getElem?_eq_some_iff.mp h3).1⟩, fun x H' ⟨T, y, y2, ex, hT, eH, hy, hy2⟩ => ?_⟩
    subst ex eH
    rw [h1] at hy
    cases hy
    rw [h3] at hy2
    cases hy2
    exact ⟨same_upd hT, .tup (SqT.of upd_same) (.cons (dp_grow (s.trans (.of (same_upd hT))) h2) (.cons (dp_grow (s.trans (.of (same_upd hT))) h4) .nil))⟩, fun H s => ⟨hg H s, hg2 H s, by rw [zipL_length, dpAll_length hd, dpAll_length he]⟩⟩
def zipD (x y : PyData) : Option (List PyData) := (asSeq x).bind fun xs => (asSeq y).map fun ys => zipL xs ys
def iZi (ga gb : Rho → R PyData) : Rho → R (List PyData) := fun ρ => (ga ρ).bd fun x => (gb ρ).bd fun y => R.of (zipD x y)
theorem sem_zip {p tpos : Pos} {elts : List Expr} {kk : Nat} (hm : X.mg "zip" = none) (ha : SemE X a ga) (hb : SemE X b gb) (hg : Gl X "zip" := by rfl) (hs : starEach [a, b] X.env = (false, eval a X.env) :: starEach [b] X.env := by rfl) (hs2 : starEach [b] X.env = [(false, eval b X.env)] := by rfl) (hpl : (backTo pos (starEach [b] X.env)).any (·.1) = false := by rfl) : SemI X (.Tuple elts kk tpos) (.Call (.Name "zip" p) [a, b] [] pos) (iZi ga gb) := fun W tk =>
  pi_imp (pi_zipS hg hm (pa_cons (ha W tk) (pa_cons (hb W tk) pa_nil hs2) hs) hs hpl) fun σ H R ⟨ρ, env, post⟩ => ⟨ρ, env, post.seq fun x v H1 _ s1 r1 post1 => ⟨ρ, env.same s1, post1.seq fun y u H2 _ s2 r2 post2 => by
    obtain ⟨ds, e, q⟩ := post2.use
    obtain ⟨xs, e1, e⟩ := Option.bind_eq_some_iff.mp e
    obtain ⟨ys, e2, rfl⟩ := Option.map_eq_some_iff.mp e
    obtain ⟨vs, Gd, B, hG, hd⟩ := srcB_dp (P := X.prog) (w := X.w) (dp_same s2 r1) e1
    obtain ⟨ws, Gd2, B2, hG2, hd2⟩ := srcB_dp (P := X.prog) (w := X.w) r2 e2
    exact ⟨v, vs, Gd, u, ws, Gd2, rfl, B, B2, hG H2 (.refl H2), hG2 H2 (.refl H2), q _ _ (Same.refl H2) (yields_zip hG hG2 hd hd2)⟩⟩⟩
end
end RL

namespace PySem.W
open PySem PySem.Calls PyProof.Rows
section
variable {prog : Program} {w : World} {A : Around} {E : Value → Shared → Prop} {s : Shared} {β : Type} {vs : List Value} {bs : List β} {enc : β → PyData} {R : Value → β → Prop}
/-- sorted(v), v anything that is collected -/
theorem sorted_any {v : Value} {Q : Value → Shared → Prop}
    (hcol : ∀ Q' : List Value → Shared → Prop, (∀ h' tk, (∀ b o, s.heap.get? b = some o → h'.get? b = some o) → Q' vs { s with heap := h', toks := tk }) → wpAny (model prog w) A.in1 (collect v) Q' (fun _ _ => False) s)
    (hargs : argsOk "sorted" ⟨[v], []⟩) (e : EachIs R vs bs) (er : EachIs (fun v b => ∃ as, Reads s.heap v (enc b) as) vs bs) (hal : AllAlike (bs.map enc)) (hk : Sortable (bs.map enc)) (hL : bs.length ≤ sizeLine)
    (hu : ∀ b, b ∈ bs → A.units + 2 + (enc b).depth < cLine)
    (h : ∀ (out : List Value) (h1 h' : Heap) (tk : Nat) (D : Addr) (en : Nat), out.length = bs.length → EachIs R out (bs.mergeSort (dataLe false enc)) → (∀ b o, s.heap.get? b = some o → h1.get? b = some o) → (∀ b o, h1.get? b = some o → h'.get? b = some o) → h1.objs.size ≤ D → h'.get? D = some (seqObj "list" (List.toArray out) en) → Q (.ref D) { s with heap := h', toks := tk }) :
    wpAny (model prog w) A (call (.builtin "sorted") [v]) Q E s := by
  have hlen : vs.length ≤ sizeLine := by rw [e.length]; exact hL
  refine call_function_entry_kw kind_sorted plain_sorted entry_sorted hargs ?_
  unfold Builtin.«sorted»
  refine wpAny_bind (m := checkCount "sorted" 1 1 _) (wpAny_pure ?_)
  refine wpAny_bind (wpAny_mono (hcol _ fun h1 tk1 k1 => ?_) (fun _ _ x => x) fun _ _ x => x.elim)
  refine wpAny_bind (wpAny_newList ?_ hlen)
  show wpAny _ _ _ _ _ { s with heap := h1.push (seqObj "list" vs.toArray 0), toks := tk1 }
  have hat : (h1.push (seqObj "list" vs.toArray 0)).get? h1.objs.size = some (seqObj "list" vs.toArray 0) := Heap.get?_push_size _ rfl
  have old : ∀ b o, s.heap.get? b = some o → (sortingHeap (h1.push (seqObj "list" vs.toArray 0)) h1.objs.size vs).get? b = some o := fun b o q =>
    sortingHeap_old (Nat.ne_of_lt (Heap.lt_size (k1 b o q))) (Heap.get?_push_of_some _ (k1 b o q))
  have er' : EachIs (fun v b => ∃ as, Reads (sortingHeap (h1.push (seqObj "list" vs.toArray 0)) h1.objs.size vs) v (enc b) as) vs bs := er.mono fun _ _ ⟨as, r⟩ => ⟨as, PyProof.Rows.Reads.keeps old r⟩
  refine wpAny_bind (wpAny_holding (wpAny_call_entry_kw slot_list_sort ⟨_, hat, rfl⟩ entry_list_sort ?body (args_list_sort _)))
  case body =>
    show wpAny (model prog w) A.in1.in1 (Builtin.«list.sort» ⟨[.ref h1.objs.size], []⟩) _ _ _
    refine list_sort_vals (s := { s with heap := h1.push (seqObj "list" vs.toArray 0), toks := tk1 }) hat
      (SortsAt.data (s := { s with heap := sortingHeap (h1.push (seqObj "list" vs.toArray 0)) h1.objs.size vs, toks := tk1 }) (each_map (R := fun v d => ∃ as, Reads (sortingHeap (h1.push (seqObj "list" vs.toArray 0)) h1.objs.size vs) v d as) enc er') hal hk (bound_map hu)) hlen ?_
    obtain ⟨en, hen⟩ := sortedHeap_at (out := (sortVals (dataKind (sortingHeap (h1.push (seqObj "list" vs.toArray 0)) h1.objs.size vs) (bs.map enc)) false vs vs).toArray) hat
    refine ⟨_, rfl, wpAny_pure ⟨_, rfl, ?_⟩⟩
    refine h _ h1 _ _ _ en (by rw [sortVals_length false rfl]; exact e.length) (sortVals_data false e er' hal) k1 (fun b o q1 => ?_) (Nat.le_refl _) hen
    exact (sortedHeap_old (Nat.ne_of_lt (Heap.lt_size q1)) (Nat.lt_of_lt_of_le (Heap.lt_size q1) (by rw [Heap.size_push]; exact Nat.le_succ _))).trans (Heap.get?_push_of_some _ q1)
end
end PySem.W

namespace RL
open PySem PySem.Spec PyProof.Rows L2
section
variable {X : Cx} {a b c : Expr} {ga gb gc : Rho → R PyData} {pos : Pos}

/-! ### sorted -/
def isTupC : PyData → Bool
  | .tuple (_ :: _) => true
  | _ => false
def isPlain : PyData → Bool
  | .none => false
  | .tuple _ => false
  | _ => true
def sortOk (ds : List PyData) : Bool := (ds.all fun d => ds.all fun e => PySem.W.alike d e) && ((ds.all isTupC) || (ds.all isPlain)) && (ds.all isS) && decide (ds.length ≤ sizeLine)
def sortL (ds : List PyData) : List PyData := ds.mergeSort (PySem.W.dataLe false id)
def sortedD : List PyData → Option PyData
  | [.list ds] => if sortOk ds then some (.list (sortL ds)) else none
  | [.tuple ds] => if sortOk ds then some (.list (sortL ds)) else none
  | _ => none
theorem sortOk_spec {ds : List PyData} (h : sortOk ds = true) : PySem.W.AllAlike (ds.map id) ∧ PySem.W.Sortable (ds.map id) ∧ (∀ d, d ∈ ds → d.depth ≤ 64) ∧ ds.length ≤ sizeLine := by
  unfold sortOk at h
  obtain ⟨h, h4⟩ := Bool.and_eq_true_iff.mp h
  obtain ⟨h, h3⟩ := Bool.and_eq_true_iff.mp h
  obtain ⟨h1, h2⟩ := Bool.and_eq_true_iff.mp h
  rw [List.map_id]
  refine ⟨fun d hd e he => List.all_eq_true.mp (List.all_eq_true.mp h1 d hd) e he, ?_, fun d hd => SeqAt.depth_of_shaped (List.all_eq_true.mp h3 d hd), of_decide_eq_true h4⟩
  rcases Bool.or_eq_true_iff.mp h2 with h2 | h2
  · refine .inl fun d hd => ?_
    have q := List.all_eq_true.mp h2 d hd
    unfold isTupC at q
    split at q
    · exact ⟨_, _, rfl⟩
    · cases q
  · refine .inr fun d hd => ?_
    have q := List.all_eq_true.mp h2 d hd
    unfold isPlain at q
    split at q
    · cases q
    · cases q
    · rename_i n1 n2
      exact ⟨n1, n2⟩
theorem eachIs_dp {K : PySem.W.Frag} {H : Hp} : ∀ {vs : List V} {ds : List PyData} {us : List Value}, DpAll K H vs ds → Vals vs us → PySem.W.EachIs (fun u d => ∃ x, RelV x u ∧ Dp K H x d) us ds
  | _, _, _, .nil, .nil => .nil
  | _, _, _, .cons a r, .cons q t => .cons ⟨_, q, a⟩ (eachIs_dp r t)
theorem dp_eachIs {K : PySem.W.Frag} {H : Hp} : ∀ {us : List Value} {ds : List PyData}, PySem.W.EachIs (fun u d => ∃ x, RelV x u ∧ Dp K H x d) us ds → ∃ vs, Vals vs us ∧ DpAll K H vs ds
  | _, _, .nil => ⟨[], .nil, .nil⟩
  | _, _, .cons ⟨x, q, a⟩ r => by
    obtain ⟨vs, h1, h2⟩ := dp_eachIs r
    exact ⟨x :: vs, .cons q h1, .cons a h2⟩
theorem eachIs_reads {pins : List (Addr × Obj)} {σ : L2.St} {H : Hp} {s : Shared} (I : Inv X pins σ H s) : ∀ {us : List Value} {ds : List PyData}, PySem.W.EachIs (fun u d => ∃ x, RelV x u ∧ Dp X.K H x d) us ds → PySem.W.EachIs (fun u d => ∃ as, Reads s.heap u (id d) as) us ds
  | _, _, .nil => .nil
  | _, _, .cons ⟨x, q, a⟩ r => .cons (Dp.reads I _ x _ a q) (eachIs_reads I r)
theorem call_sortedD {k : Nat} (hr : Room k X.A) : CallR X (.builtin "sorted") (rDC X.K sortedD) := by
  intro pins s σ H xs us Q I r ⟨ds, d, hd, hF, q⟩
  have key : ∀ (v : V) (vs : List V) (es : List PyData) (its : List Value) (o : Obj) (n : Nat) (l : Addr) (T : String), (T = "list" ∨ T = "tuple") → s.heap.get? l = some o → o.cls = .type T → o.data = .seq its.toArray n → Vals vs its → DpAll X.K H vs es → sortOk es = true →
      (∀ v' H', Same H H' → Dp X.K H' v' (.list (sortL es)) → Q v' H') → wpAny (model X.prog X.w) X.A (call (.builtin "sorted") [.ref l]) (EP X pins σ Q) X.xe s := by
    intro v vs es its o n l T hT ho hc hdat rv hda hok q
    obtain ⟨h1, h2, h3, h4⟩ := sortOk_spec hok
    have hlen : its.length = es.length := rv.length.symm.trans (dpAll_length hda)
    have ea := eachIs_dp hda rv
    refine PySem.W.sorted_any (vs := its) (bs := es) (enc := id) (R := fun u d => ∃ x, RelV x u ∧ Dp X.K H x d) (fun Q' hq => wpAny_collect_seq l hT ho hc hdat (fun h' hk => hq h' s.toks hk) (by rw [List.size_toArray]; omega)) (PyProof.Rows.args_sorted1 _) ea (eachIs_reads I ea) h1 h2 h4 (fun d hd => ?_) fun out g1 g2 tk D en ho' hout hk1 hk2 hD hat => ?_
    · have := h3 d hd
      have := hr.un
      show X.A.units + 2 + d.depth < cLine
      omega
    · obtain ⟨ws, r1, r2⟩ := dp_eachIs hout
      have I1 : Inv X pins σ H { s with heap := g1 } := I.kept (t' := s.toks) hk1
      have hn : H D = none := I1.hok.fresh hD
      have hl2 : ws.length ≤ sizeLine := by rw [r1.length, ho']; exact h4
      have new : ObjOk X.prog X.w (upd H D (.lst ws)) g2 D (.lst ws) := ⟨hl2, out, en, r1, hat⟩
      exact ⟨.ref D, _, Inv.laid (s := { s with heap := g1 }) (h' := g2) (t' := tk) I1 hk2 hD new, rfl, q _ _ (same_upd hn) (.lst (SqL.of upd_same) (dpAll_same (same_upd hn) r2))⟩
  match ds, hF with
  | [.list ys], hF =>
    obtain ⟨v, rfl, h1⟩ := dpAll1 hd
    obtain ⟨hok, rfl⟩ := ite_some hF
    cases h1 with
    | lst hs ha =>
      cases r with
      | cons r0 rr =>
        cases rr
        cases r0
        obtain ⟨its, rv, ⟨o, n, ho, hc, _, hdat⟩, _⟩ := I.list hs
        exact key .non _ ys its o n _ "list" (.inl rfl) ho hc hdat rv ha hok q
  | [.tuple ys], hF =>
    obtain ⟨v, rfl, h1⟩ := dpAll1 hd
    obtain ⟨hok, rfl⟩ := ite_some hF
    cases h1 with
    | tup hs ha =>
      cases r with
      | cons r0 rr =>
        cases rr
        cases r0
        obtain ⟨its, rv, ⟨o, ho, hc, n, hdat⟩, _⟩ := I.tuple hs
        exact key .non _ ys its o n _ "tuple" (.inr rfl) ho hc hdat rv ha hok q
theorem sem_sorted {e : Expr} {gs : Rho → R (List PyData)} {p : Pos} {k : Nat} (hr : Room k X.A) (hm : X.mg "sorted" = none) (ha : SemA X [e] gs) (hg : Gl X "sorted" := by rfl)
    (he : starEach (e :: []) X.env = (false, eval e X.env) :: starEach [] X.env := by rfl) (hpl : (backTo pos (starEach [] X.env)).any (·.1) = false := by rfl) : SemE X (.Call (.Name "sorted" p) [e] [] pos) (gBlt sortedD gs) :=
  sem_blt (call_sortedD hr) hg hm boot_sorted ha (by decide) (by decide) he hpl

/-! ### is, as tests -/
theorem sem_isNT {j : Nat} {pos' : Pos} (ha : SemE X a ga) : SemT X (.Compare a [.Is] [.Constant .none j pos'] pos) (gTest (gIsN ga)) := fun W tk =>
  pt_imp (pt_cmp (pc_isN (ha W tk)) rfl) fun σ H Q ⟨ρ, env, post⟩ => by
    unfold gTest gIsN at post
    rw [R.bd_bd] at post
    exact ⟨ρ, env, post.seq0 fun x v H1 s1 r1 post => ⟨_, rfl, post _ _ s1 (isNone_rel r1)⟩⟩
theorem sem_notNT {j : Nat} {pos' : Pos} (ha : SemE X a ga) : SemT X (.Compare a [.IsNot] [.Constant .none j pos'] pos) (gTest (gNotN ga)) := fun W tk =>
  pt_imp (pt_cmp (pc_notN (ha W tk)) rfl) fun σ H Q ⟨ρ, env, post⟩ => by
    unfold gTest gNotN at post
    rw [R.bd_bd] at post
    exact ⟨ρ, env, post.seq0 fun x v H1 s1 r1 post => ⟨_, rfl, post _ _ s1 (by rw [isNone_rel r1])⟩⟩
theorem isB_rd {f : Bool → Bool → Bool} {W : WX} {σ : L2.St} {H : Hp} {Q : Bool → Hp → Prop} {ρ : Rho} (env : EnvR X.K H σ ρ) (post : PostG X.mg W σ H rBo Q (gTest (gBB f ga gb) ρ)) :
    tP X.K X.mg W ga σ H fun x H1 => tP X.K X.mg W gb σ H1 fun y H2 => ∃ i j, x = .bl i ∧ y = .bl j ∧ Q (f i j) H2 := by
  have post' : PostG X.mg W σ H rBo Q ((ga ρ).bd fun x => (gb ρ).bd fun y => (R.of ((bbD f x y).map PyData.bool)).bd fun b => R.of (asB b)) := by
    have e : gTest (gBB f ga gb) ρ = ((ga ρ).bd fun x => (gb ρ).bd fun y => (R.of ((bbD f x y).map PyData.bool)).bd fun b => R.of (asB b)) := by
      unfold gTest gBB
      simp only [R.bd_bd]
    rw [← e]; exact post
  exact ⟨ρ, env, post'.seq fun x v H1 _ s1 r1 post1 => ⟨ρ, env.same s1, post1.seq fun y u H2 _ s2 r2 post2 => by
    obtain ⟨r, e, q⟩ := post_of post2
    obtain ⟨k, hk, rfl⟩ := Option.map_eq_some_iff.mp e
    cases r1 with
    | bl i => cases r2 with
      | bl j => cases hk; exact ⟨_, _, rfl, rfl, q _ _ (Same.refl H2) rfl⟩
      | _ => cases hk
    | _ => cases r2 <;> cases hk⟩⟩
theorem sem_isBT (ha : SemE X a ga) (hb : SemE X b gb) (hm : behindInMarks .Is b = false := by rfl) : SemT X (.Compare a [.Is] [b] pos) (gTest (gBB (fun i j => decide (i = j)) ga gb)) := fun W tk =>
  pt_imp (pt_cmpR op_isBl (ha W tk) (hb W tk) hm) fun σ H Q ⟨ρ, env, post⟩ => by
    obtain ⟨ρ1, e1, p1⟩ := isB_rd env post
    exact ⟨ρ1, e1, p1.imp fun _ _ _ _ _ _ ⟨ρ2, e2, p2⟩ => ⟨ρ2, e2, p2.imp fun _ _ _ _ _ _ ⟨i, j, h1, h2, q⟩ => ⟨i, j, h1, h2, _, rfl, q⟩⟩⟩
theorem sem_isnotBT (ha : SemE X a ga) (hb : SemE X b gb) (hm : behindInMarks .IsNot b = false := by rfl) : SemT X (.Compare a [.IsNot] [b] pos) (gTest (gBB (fun i j => !decide (i = j)) ga gb)) := fun W tk =>
  pt_imp (pt_cmpR op_notBl (ha W tk) (hb W tk) hm) fun σ H Q ⟨ρ, env, post⟩ => by
    obtain ⟨ρ1, e1, p1⟩ := isB_rd env post
    exact ⟨ρ1, e1, p1.imp fun _ _ _ _ _ _ ⟨ρ2, e2, p2⟩ => ⟨ρ2, e2, p2.imp fun _ _ _ _ _ _ ⟨i, j, h1, h2, q⟩ => ⟨i, j, h1, h2, _, rfl, q⟩⟩⟩

/-! ### parallel assignment -/
def sPar (is : List Nat) (gs : Rho → R (List PyData)) : Rho → O := fun ρ => (gs ρ).to ρ fun ds => if ds.length = is.length then .nx (setE ρ is ds) else .stuck
theorem sem_par {i j : Nat} {x y : Str} {gs : Rho → R (List PyData)} {px py pt pt2 : Pos} {kt k2 : Nat} (hN : X.N.Nodup) (ha : SemA X [a, b] gs) (hi : X.N[i]? = some x := by rfl) (hj : X.N[j]? = some y := by rfl) (hij : i ≠ j := by decide)
    (hx : X.env.scope.names.lookup x = some .local := by rfl) (hy : X.env.scope.names.lookup y = some .local := by rfl) (hc : X.calm = true := by rfl)
    (hw : swappedStores [.Tuple [.Name x px, .Name y py] kt pt] (.Tuple [a, b] k2 pt2) X.env = pure (some [x, y]) := by rfl)
    (hs : swapsWithSole [.Tuple [.Name x px, .Name y py] kt pt] (.Tuple [a, b] k2 pt2) pos.line X.env = pure false := by rfl) :
    SemS X (.Assign [.Tuple [.Name x px, .Name y py] kt pt] (.Tuple [a, b] k2 pt2) pos) (sPar [i, j] gs) := fun W tk =>
  ps_imp (ps_par hc hN hi hj hij hx hy (ha W tk.tk) hw hs) fun D σ H ⟨H0, Hb, ρ, env, post⟩ => ⟨ρ, env.e, post_to env post fun ds vs H1 s r q => by
    split at q
    · rename_i hl
      match ds, hl, q with
      | [d1, d2], _, q =>
        obtain ⟨v, u, rfl, h1, h2⟩ := dpAll2 r
        exact ⟨v, u, rfl, q _ H1 ((env.same s).sets (is := [i, j]) r)⟩
    · exact q.elim⟩
/-! ### constants of the module, pure defs -/
structure ValF (K : PySem.W.Frag) (mg : Str → Option Value) (x : Str) (d : PyData) : Prop where
  ex : ∃ v u, mg x = some u ∧ RelV v u ∧ ∀ H, Dp K H v d
theorem sem_val {x : Str} {d : PyData} (h : ValF X.K X.mg x d) (hg : Gl X x := by rfl) (hd : (x == ("__debug__" : Str)) = false := by decide) : SemE X (.Name x pos) (gK d) := by
  obtain ⟨v, u, hm, r, hd'⟩ := h.ex
  exact sem_glob hg hm r hd' hd
theorem fnF_pure {P : Program} {w : World} {K : PySem.W.Frag} {mg : Str → Option Value} {base : Heap} {k n : Nat} {x qual : Str} {params : Arguments} {body : List Stmt} {scope : Scope} {f : Addr} {N ps : List Str} {g : Rho → O}
    (F : ∃ fd, FunD K x qual params body scope [] [] f fd) (S : FnScope N ps scope) (hm : mg x = some (.ref f)) (hn : ps.length = n)
    (hb : ∀ (kV doc pm : Value) (an : Option Addr) (cdv ct : Value) (us : List Value), us.length = ps.length → bindArgs (PySem.W.fnOf x qual params body scope .none kV doc pm an cdv ct) ⟨us, []⟩ = pure (ps.zip us))
    (hbody : ∀ (cdv : Value) (A : Around) (outer : List Env) (s : Shared) (H : Hp) (E : XK), Room k (A.deeper (envOfC qual scope s.heap.objs.size f cdv)) → SemSs (cxOf (L2.CX P w) P w K mg base N qual scope f cdv A outer s H E) body g) :
    FnF P w K mg base (k + 1) x n (spP K mg n (runD N g)) := by
  obtain ⟨fd, F⟩ := F
  exact ⟨f, fd, ps, ok_pure F S hn fun cdv A outer s H E hr => hbody cdv A outer s H E hr, hm, F.kp, F.bindsN hb, hn⟩
end
end RL

namespace RL
open PySem PySem.Spec PyProof.Rows L2
section
variable {X : Cx} {a b c : Expr} {ga gb gc : Rho → R PyData} {pos : Pos}

/-! ### list(range(n)) -/
def listR (x : PyData) : Option PyData := (asI x).bind fun j => if 0 ≤ j ∧ j ≤ 16777216 then some (.list (rangeL 0 j.toNat)) else none
def gListR (ga : Rho → R PyData) : Rho → R PyData := fun ρ => (ga ρ).bd fun x => R.of (listR x)
theorem rgV_dp {K : PySem.W.Frag} {H : Hp} (lo : Int) : ∀ n : Nat, DpAll K H ((List.range n).map fun (i : Nat) => V.int (lo + (i : Nat))) (rangeL lo n) := by
  intro n
  unfold rangeL
  have key : ∀ l : List Nat, DpAll K H (l.map fun (i : Nat) => V.int (lo + (i : Nat))) (l.map fun (i : Nat) => PyData.int (lo + (i : Int))) := by
    intro l
    induction l with
    | nil => exact .nil
    | cons a r ih => exact .cons (.int _) ih
  exact key _
theorem sem_listrange {p p2 pos2 : Pos} (hl : X.mg "list" = none) (hm : X.mg "range" = none) (ha : SemE X a ga) (hc : X.calm = true := by rfl) (hg : Gl X "list" := by rfl) (hg2 : Gl X "range" := by rfl) (na2 : starEach [a] X.env = (false, eval a X.env) :: starEach [] X.env := by rfl)
    (na : starEach [.Call (.Name "range" p2) [a] [] pos2] X.env = (false, eval (.Call (.Name "range" p2) [a] [] pos2) X.env) :: starEach [] X.env := by rfl) : SemE X (.Call (.Name "list" p) [.Call (.Name "range" p2) [a] [] pos2] [] pos) (gListR ga) := fun W tk =>
  pe_imp (pe_listRg hc hg hl (prg_1 hg2 hm (ha W tk) na2) na) fun σ H Q ⟨ρ, env, post⟩ => ⟨ρ, env, post.seq fun x v H1 _ s1 r1 post1 => by
    obtain ⟨r, e, q⟩ := post1.use
    cases r1 with
    | int j =>
      obtain ⟨c, rfl⟩ := ite_some (show (if 0 ≤ j ∧ j ≤ 16777216 then some (PyData.list (rangeL 0 j.toNat)) else none) = some r from e)
      refine ⟨j, rfl, RgOk.of_le (by omega) (by omega) (by omega) (by omega), fun p hp => q _ _ (same_upd hp) (.lst (SqL.of upd_same) ?_)⟩
      unfold rgV
      rw [Int.sub_zero]
      exact rgV_dp 0 j.toNat
    | _ => cases e⟩

/-! ### str(x) -/
def strD : List PyData → Option PyData
  | [.int i] => if i.natAbs.log2 < 1920 then some (.str (toString i)) else none
  | [.str x] => some (.str x)
  | _ => none
theorem call_strD : CallR X (.type "str") (rDC X.K strD) := by
  intro pins s σ H xs us Q I r ⟨ds, d, hd, hF, q⟩
  match ds, hF with
  | [.int i], hF =>
    obtain ⟨v, rfl, h1⟩ := dpAll1 hd
    cases h1
    obtain ⟨hl, rfl⟩ := ite_some hF
    exact call_str_int pins s σ H _ us Q I r ⟨i, rfl, hl, q _ _ (Same.refl H) (.str _)⟩
  | [.str x], hF =>
    obtain ⟨v, rfl, h1⟩ := dpAll1 hd
    cases h1
    cases hF
    exact SkE.call_str_str pins s σ H _ us Q I r ⟨x, rfl, q _ _ (Same.refl H) (.str _)⟩
/-! ### s.split(sep), sep.join(xs) -/
def asStr : PyData → Option Str
  | .str x => some x
  | _ => none
theorem strs_dp {K : PySem.W.Frag} {H : Hp} : ∀ ys : List Str, DpAll K H (ys.map V.str) (ys.map PyData.str)
  | [] => .nil
  | y :: ys => .cons (.str y) (strs_dp ys)
def splitD (x : Str) (y : PyData) : Option PyData := (asStr y).bind fun y => if (y.length == 0) = false ∧ x.length + 2 ≤ sizeLine then some (.list ((Txt.split x y).map .str)) else none
def gSplit (ga gb : Rho → R PyData) : Rho → R PyData := fun ρ => (ga ρ).bd fun x => (R.of (asStr x)).bd fun x => (gb ρ).bd fun y => R.of (splitD x y)
theorem sem_split {apos : Pos} (ha : SemE X a ga) (hb : SemE X b gb) (hs : starEach [b] X.env = [(false, eval b X.env)] := by rfl) (hbase : attributeBase a "split" X.env (eval a X.env) = eval a X.env := by rfl) (hline : (apos.endLine == pos.line) = true := by rfl) :
    SemE X (.Call (.Attribute a "split" apos) [b] [] pos) (gSplit ga gb) := fun W tk =>
  pe_imp (pe_split (ha W tk) (hb W tk) hs hbase hline) fun σ H Q ⟨ρ, env, post⟩ => ⟨ρ, env, post.seq fun x v H1 _ s1 r1 post1 => by
    obtain ⟨z, e, post2⟩ := post_of post1
    cases r1 with
    | str y =>
      cases e
      refine ⟨⟨_, rfl⟩, ρ, env.same s1, post2.seq fun y u H2 _ s2 r2 post3 => ?_⟩
      obtain ⟨r, e, q⟩ := post3.use
      cases r2 with
      | str y =>
        obtain ⟨⟨c1, c2⟩, rfl⟩ := ite_some (show (if (y.length == 0) = false ∧ z.length + 2 ≤ sizeLine then some (PyData.list ((Txt.split z y).map .str)) else none) = some r from e)
        exact ⟨z, y, rfl, rfl, c1, c2, fun p hp => q _ _ (same_upd hp) (.lst (SqL.of upd_same) (strs_dp _))⟩
      | _ => cases e
    | _ => cases e⟩
def strsOf : List PyData → Option (List Str)
  | [] => some []
  | .str x :: r => (strsOf r).map (x :: ·)
  | _ :: _ => none
theorem strsOf_vs {K : PySem.W.Frag} {H : Hp} : ∀ {ds : List PyData} {vs : List V} {ys : List Str}, DpAll K H vs ds → strsOf ds = some ys → vs = ys.map V.str
  | [], _, _, h, e => by cases h; cases e; rfl
  | d :: ds, _, ys, h, e => by
    cases h with
    | cons a r =>
      cases a with
      | str b =>
        obtain ⟨cs, hc, rfl⟩ := Option.map_eq_some_iff.mp (show (strsOf ds).map (b :: ·) = some ys from e)
        rw [List.map_cons, strsOf_vs r hc]
      | _ => cases e
def joinD (x : Str) (y : PyData) : Option PyData := (asSeq y).bind fun ds => (strsOf ds).bind fun ys => if (ys.map (·.length)).sum + ys.length * x.length ≤ 16777216 then some (.str (Txt.join x ys)) else none
def gJoin (ga gb : Rho → R PyData) : Rho → R PyData := fun ρ => (ga ρ).bd fun x => (R.of (asStr x)).bd fun x => (gb ρ).bd fun y => R.of (joinD x y)
theorem sem_join {apos : Pos} (ha : SemE X a ga) (hb : SemE X b gb) (hs : starEach [b] X.env = [(false, eval b X.env)] := by rfl) (hbase : attributeBase a "join" X.env (eval a X.env) = eval a X.env := by rfl) (hline : (apos.endLine == pos.line) = true := by rfl) :
    SemE X (.Call (.Attribute a "join" apos) [b] [] pos) (gJoin ga gb) := fun W tk =>
  pe_imp (pe_join (ha W tk) (hb W tk) hs hbase hline) fun σ H Q ⟨ρ, env, post⟩ => ⟨ρ, env, post.seq fun x v H1 _ s1 r1 post1 => by
    obtain ⟨z, e, post2⟩ := post_of post1
    cases r1 with
    | str y =>
      cases e
      refine ⟨⟨_, rfl⟩, ρ, env.same s1, post2.seq fun y u H2 _ s2 r2 post3 => ?_⟩
      obtain ⟨r, e, q⟩ := post3.use
      obtain ⟨ds, e1, e⟩ := Option.bind_eq_some_iff.mp e
      obtain ⟨ys, e2, e⟩ := Option.bind_eq_some_iff.mp e
      obtain ⟨c, rfl⟩ := ite_some e
      cases r2 with
      | lst hs ha =>
        cases e1
        rw [strsOf_vs ha e2] at hs
        exact ⟨z, _, ys, rfl, rfl, .inl hs, c, q _ _ (Same.refl H2) (.str _)⟩
      | tup hs ha =>
        cases e1
        rw [strsOf_vs ha e2] at hs
        exact ⟨z, _, ys, rfl, rfl, .inr hs, c, q _ _ (Same.refl H2) (.str _)⟩
      | _ => cases e1
    | _ => cases e⟩

/-! ### {"a": x, "b": y}[k] -/
structure SemP (X : Cx) (pos : Pos) (keys : List (Option Expr)) (values : List Expr) (ks : List Str) (gs : Rho → R (List PyData)) : Prop where
  run : ∀ W, Takes X W → ∃ trs, PPs X pos keys values trs ∧ ∀ (Q : List (V × V) → Hp → Prop) σ H, (∃ ρ, EnvR X.K H σ ρ ∧ PostG X.mg W σ H (rDs X.K) (fun vs H' => Q (ks.map V.str |>.zip vs) H') (gs ρ)) → tPairs trs σ H Q
theorem sem_p0 : SemP X pos [] [] [] gNil := ⟨fun W tk => ⟨[], pps_nil, fun Q σ H ⟨ρ, env, post⟩ => post [] H (Same.refl H) .nil⟩⟩
theorem sem_p1 {k : Str} {j : Nat} {p : Pos} {v : Expr} {g : Rho → R PyData} {keys : List (Option Expr)} {values : List Expr} {ks : List Str} {gs : Rho → R (List PyData)} (hv : SemE X v g) (hr : SemP X pos keys values ks gs) :
    SemP X pos (some (.Constant (.str k) j p) :: keys) (v :: values) (k :: ks) (gCons g gs) := ⟨fun W tk => by
  obtain ⟨trs, h1, h2⟩ := hr.run W tk
  refine ⟨_, pps_cons pe_str (hv W tk) h1, fun Q σ H ⟨ρ, env, post⟩ => ?_⟩
  refine ⟨ρ, env, post.seq fun x v H1 _ s1 r1 post1 => h2 _ σ H1 ⟨ρ, env.same s1, post1.seq fun xs vs H2 _ s2 r2 post2 => ?_⟩⟩
  exact post2 (v :: vs) H2 (Same.refl H2) (.cons (dp_same s2 r1) r2)⟩
def dselD (ks : List Str) (ds : List PyData) (x : PyData) : Option PyData := (asStr x).bind fun k => (ks.zip ds).lookup k
def dokD (ks : List Str) (ds : List PyData) : Option Unit := if ks.Nodup ∧ ks.length = ds.length ∧ ks.length ≤ 15 then some () else none
def gDsel (ks : List Str) (gs : Rho → R (List PyData)) (gb : Rho → R PyData) : Rho → R PyData := fun ρ => (gs ρ).bd fun ds => (R.of (dokD ks ds)).bd fun _ => (gb ρ).bd fun x => R.of (dselD ks ds x)
/-- sequences stay -/
structure Seqs (K : PySem.W.Frag) (H H' : Hp) : Prop where
  l : ∀ a xs, SqL K H a xs → SqL K H' a xs
  t : Tups K H H'
  s : ∀ a φ, H a = some (.ext φ) → H' a = some (.ext φ)
mutual
theorem dp_seqs {K : PySem.W.Frag} {H H' : Hp} (e : Seqs K H H') : ∀ {d : PyData} {v : V}, Dp K H v d → Dp K H' v d
  | .none, _, h => by cases h; exact .non
  | .bool _, _, h => by cases h; exact .bl _
  | .int _, _, h => by cases h; exact .int _
  | .str _, _, h => by cases h; exact .str _
  | .list ds, _, h => by
    cases h with
    | lst hs ha => exact .lst (e.l _ _ hs) (dpAll_seqs e ha)
  | .tuple ds, _, h => by
    cases h with
    | tup hs ha => exact .tup (e.t _ _ hs) (dpAll_seqs e ha)
  | .dict _, _, h => by cases h
theorem dpAll_seqs {K : PySem.W.Frag} {H H' : Hp} (e : Seqs K H H') : ∀ {ds : List PyData} {vs : List V}, DpAll K H vs ds → DpAll K H' vs ds
  | [], _, h => by cases h; exact .nil
  | d :: ds, _, h => by
    cases h with
    | cons h1 h2 => exact .cons (dp_seqs e h1) (dpAll_seqs e h2)
end
theorem EnvR.seqs {K : PySem.W.Frag} {H H' : Hp} (e : Seqs K H H') {ρ : Rho} {σ : L2.St} (h : EnvR K H σ ρ) : EnvR K H' σ ρ := by
  refine ⟨?_, h.d⟩
  have key : ∀ {ρ : Rho} {σ : L2.St}, EnvP K H σ ρ → EnvP K H' σ ρ := by
    intro ρ
    induction ρ with
    | nil => intro σ h; cases h; exact .nil
    | cons x r ih =>
      intro σ h
      cases h with
      | cons a b =>
        refine .cons ?_ (ih b)
        cases x with
        | u => trivial
        | d x => obtain ⟨v, h1, h2⟩ := a; exact ⟨v, h1, dp_seqs e h2⟩
        | r v => exact a
        | s => obtain ⟨a, h1, h2⟩ := a; exact ⟨a, h1, e.s _ _ h2⟩
        | o ds => obtain ⟨a, vs, h1, h2, h3⟩ := a; exact ⟨a, vs, h1, e.s _ _ h2, dpAll_seqs e h3⟩
  exact key h.p
/-- an object that is no sequence is changed -/
theorem Seqs.upd {K : PySem.W.Frag} {H : Hp} {p : Addr} {o o' : HO} (h : H p = some o) (h0 : ∀ xs, o ≠ .lst xs) (h1 : ∀ xs, o ≠ .tup xs) (h2 : ∀ ob u, o ≠ .frz ob u) (h3 : ∀ φ, o ≠ .ext φ) : Seqs K H (upd H p o') where
  l := fun a xs q => by
    rcases q with (q | ⟨ob, q⟩) | q
    · refine .inl (.inl ?_)
      rw [upd_ne]
      · exact q
      · rintro rfl
        rw [h] at q
        exact h0 _ (Option.some.inj q)
    · refine .inl (.inr ⟨ob, ?_⟩)
      rw [upd_ne]
      · exact q
      · rintro rfl
        rw [h] at q
        exact h2 _ _ (Option.some.inj q)
    · exact .inr q
  t := Tups.lst h h1 h2
  s := fun a φ q => by
    rw [upd_ne]
    · exact q
    · rintro rfl
      rw [h] at q
      exact h3 _ (Option.some.inj q)
theorem Seqs.dK {K : PySem.W.Frag} {H : Hp} {p : Addr} {kvs : List (Key × V)} {o' : HO} (h : H p = some (.dK kvs)) : Seqs K H (L2.upd H p o') := Seqs.upd h (fun _ e => nomatch e) (fun _ e => nomatch e) (fun _ _ e => nomatch e) fun _ e => nomatch e
theorem valV_merge : ∀ (more kvs : List (Key × V)) (j : Key), (more.map (·.1)).Nodup → valV (mergeK kvs more) j = ((valV more j).or (valV kvs j))
  | [], kvs, j, _ => rfl
  | p :: r, kvs, j, h => by
    rw [List.map_cons, List.nodup_cons] at h
    show valV (mergeK (putK kvs p.1 p.2) r) j = _
    rw [valV_merge r _ j h.2, valV_put]
    by_cases e : p.1 = j
    · have hn : valV r j = none := by
        cases q : valV r j with
        | none => rfl
        | some x =>
          exfalso
          unfold valV at q
          obtain ⟨z, hz, _⟩ := Option.map_eq_some_iff.mp q
          have h1 := List.mem_of_find?_eq_some hz
          have h2 := List.find?_some hz
          have h3 : z.1 = j := by simpa using h2
          exact h.1 (List.mem_map.mpr ⟨z, h1, by rw [h3, e]⟩)
      rw [hn, valV_pos e, if_pos e.symm]
      rfl
    · rw [valV_neg e, if_neg (fun z => e z.symm)]
abbrev kS (k : Str) : Key := .inr k
theorem kS_inj {a b : Str} (e : kS a = kS b) : a = b := Sum.inr.inj e
theorem valV_zip {K : PySem.W.Frag} {H : Hp} {k : Str} {d : PyData} : ∀ {ks : List Str} {ds : List PyData} {vs : List V}, DpAll K H vs ds → (ks.zip ds).lookup k = some d → ∃ v, valV ((ks.map kS).zip vs) (kS k) = some v ∧ Dp K H v d
  | [], _, _, _, e => by cases e
  | _ :: _, [], _, _, e => by cases e
  | k1 :: ks, d1 :: ds, _, h, e => by
    cases h with
    | @cons v1 _ vs _ h1 h2 =>
      by_cases c : k1 = k
      · subst c
        rw [List.zip_cons_cons, List.lookup_cons_self] at e
        cases e
        exact ⟨v1, valV_pos rfl, h1⟩
      · rw [List.zip_cons_cons, List.lookup_cons, show (k == k1) = false by simpa using fun z => c z.symm] at e
        obtain ⟨v, q1, q2⟩ := valV_zip h2 e
        exact ⟨v, by rw [List.map_cons, List.zip_cons_cons, valV_neg (fun z => c (kS_inj z))]; exact q1, q2⟩
theorem sem_dsel {keys : List (Option Expr)} {values : List Expr} {ks : List Str} {gs : Rho → R (List PyData)} {p1 : Pos} {k : Nat} (hr : Room k X.A) (hP : SemP X p1 keys values ks gs) (hb : SemE X b gb) (hall : keys.all (·.isSome) = true := by rfl) (hl : keys.length = values.length := by rfl) (h0 : keys ≠ [] := by intro z; cases z)
    (h15 : keys.length ≤ 15 := by decide) (hs : NoSl b := by intro _ _; rfl) : SemE X (.Subscript (.Dict keys values p1) b pos) (gDsel ks gs gb) := fun W tk => by
  obtain ⟨trs, h1, h2⟩ := hP.run W tk
  refine pe_imp (pe_dget (hu_of hr) (pe_disp h1 hall hl h0 h15) (hb W tk) hs) fun σ H Q ⟨ρ, env, post⟩ => ?_
  intro p hp
  refine h2 _ σ _ ⟨ρ, env.same (same_upd hp), ?_⟩
  unfold gDsel at post
  refine PostG.seq2 (same_upd hp) post fun ds vs H2 s2 r2 post => ?_
  · 
    have hd2 : H2 p = some (.dK []) := s2 _ _ upd_same
    have sH : Same H H2 := (same_upd hp).trans s2
    have hlen := dpAll_length r2
    obtain ⟨_, e0, post⟩ := post_of (show PostG X.mg W σ H (rDp X.K) Q ((R.of (dokD ks ds)).bd fun _ => (gb ρ).bd fun x => R.of (dselD ks ds x)) from post)
    obtain ⟨⟨hnd, hle, h16⟩, _⟩ := ite_some (show (if ks.Nodup ∧ ks.length = ds.length ∧ ks.length ≤ 15 then some () else none) = some _ from e0)
    have sq := Seqs.dK (K := X.K) (o' := .dK (mergeK [] ((ks.map kS).zip vs))) hd2
    have pz : ∀ (ks : List Str) (vs : List V), (ks.map V.str).zip vs = ((ks.map kS).zip vs).map fun kv => (kV kv.1, kv.2) := by
      intro ks
      induction ks with
      | nil => intro vs; rfl
      | cons a r ih =>
        intro vs
        cases vs with
        | nil => rfl
        | cons v vs => exact congrArg (((V.str a), v) :: ·) (ih vs)
    have hz : (((ks.map kS).zip vs).map (·.1)) = ks.map kS := by
      rw [List.map_fst_zip]
      rw [List.length_map, hlen, hle]
      exact Nat.le_refl _
    have hnd2 : (((ks.map kS).zip vs).map (·.1)).Nodup := by
      rw [hz]
      exact List.Pairwise.map kS (fun a b h e => h (kS_inj e)) hnd
    refine ⟨hd2, _, pz ks vs, ?_, ρ, (env.same sH).seqs sq, ?_⟩
    · rw [List.length_zip, List.length_map, hlen, hle, Nat.min_self, ← hle]; exact h16
    have sH3 : Same H (L2.upd H2 p (.dK (mergeK [] ((ks.map kS).zip vs)))) := fun a o h => by
      rw [upd_ne]
      · exact sH a o h
      · rintro rfl
        rw [hp] at h
        cases h
    refine (post.mono sH3).seq fun x v H4 _ s4 r4 post4 => ?_
    obtain ⟨r, e, q⟩ := post4.use
    cases r4 with
    | str y =>
      obtain ⟨w, q1, q2⟩ := valV_zip r2 (show (ks.zip ds).lookup y = some r from e)
      have e4 : H4 p = some (.dK (mergeK [] ((ks.map kS).zip vs))) := s4 _ _ upd_same
      have g := DGet.k (k := kS y) e4
      rw [valV_merge _ _ _ hnd2, q1] at g
      exact ⟨p, w, rfl, g, q _ _ (Same.refl H4) (dp_same s4 (dp_seqs sq q2))⟩
    | _ => cases e
end
end RL

namespace RL
open PySem PySem.Spec PyProof.Rows L2

/-! ### the source of draws: between its list and what is told of it -/
section
variable {P : Program} {w : World} {K : PySem.W.Frag} {mg : Str → Option Value} {base : Heap}
theorem srcL_stay (a : Addr) : ∀ h1 h2 : Heap, SrcL h1 a → (∀ o, h1.get? a = some o → h2.get? a = some o) → SrcL h2 a :=
  fun h1 h2 ⟨c, n, t, u, k, h0, h3, h4, e⟩ s => ⟨c, n, t, u, k, h0, h3, h4, s _ e⟩
theorem stay_to {H H' : Hp} {h : Heap} {b : Addr} {o : HO} (x : ObjOk P w H h b o) (ho : ∀ c, H c = some (.own b) → H' c = some (.own b)) (ht : ∀ c xs, H c = some (.tup xs) → H' c = some (.tup xs)) : ObjOk P w H' h b o :=
  x.stay (fun _ _ _ e => e) ho ht
/-- the list for the source -/
theorem hok_list {H : Hp} {h : Heap} {a : Addr} {c n : Int} {t u : Tok} {k : Nat} (ok : HOk P w H h) (ha : H a = some (srcHO a)) (e : h.get? a = some { cls := .type "list", data := .seq #[.int c t, .int n u] k }) : HOk P w (upd H a (.lst [.int c, .int n])) h := fun b o hb => by
  by_cases q : b = a
  · subst q
    rw [upd_same] at hb
    cases hb
    refine ⟨by rw [sizeLine_eq]; show 2 ≤ 16777216; decide, [.int c t, .int n u], k, .cons ⟨t, rfl⟩ (.cons ⟨u, rfl⟩ .nil), e⟩
  · rw [upd_ne q] at hb
    refine stay_to (ok b o hb) (fun c hc => ?_) fun c xs hc => ?_
    · rw [upd_ne]
      · exact hc
      · rintro rfl; rw [ha] at hc; cases hc
    · rw [upd_ne]
      · exact hc
      · rintro rfl; rw [ha] at hc; cases hc
/-- the source for the list -/
theorem hok_src {H : Hp} {h : Heap} {a : Addr} {c n : Int} (ok : HOk P w (upd H a (.lst [.int c, .int n])) h) (h0 : 0 ≤ c) (h1 : 0 ≤ n) (h2 : n < 2147483549) : HOk P w (upd H a (srcHO a)) h := fun b o hb => by
  by_cases q : b = a
  · subst q
    rw [upd_same] at hb
    cases hb
    obtain ⟨_, its, k, r, e⟩ := ok b (.lst [.int c, .int n]) upd_same
    cases r with
    | cons r1 r2 =>
      cases r2 with
      | cons r2 r3 =>
        cases r3
        obtain ⟨t, rfl⟩ := r1
        obtain ⟨u, rfl⟩ := r2
        exact ⟨⟨c, n, t, u, k, h0, h1, h2, e⟩, ⟨_, e⟩, srcL_stay b⟩
  · rw [upd_ne q] at hb
    refine stay_to (ok b o (by rw [upd_ne q]; exact hb)) (fun d hc => ?_) fun d xs hc => ?_
    · by_cases z : d = a
      · subst z; rw [upd_same] at hc; cases hc
      · rw [upd_ne z] at hc ⊢; exact hc
    · by_cases z : d = a
      · subst z; rw [upd_same] at hc; cases hc
      · rw [upd_ne z] at hc ⊢; exact hc
theorem un_src {fs ex : List Addr} {H H1 H2 : Hp} {h h' : Heap} {a : Addr} {o1 : HO} {xs : List V} (u : Un fs ex H1 (upd H2 a (.lst xs)) h h') (hH : H1 = H ∨ (∃ φ, H a = some (.ext φ)) ∧ H1 = upd H a o1) : Un fs ex H (upd H2 a (srcHO a)) h h' := by
  have n1 : ∀ b, H b = none → H1 b = none := fun b q => by
    rcases hH with e | ⟨⟨φ, e⟩, e1⟩
    · rw [e]; exact q
    · rw [e1, upd_ne]
      · exact q
      · rintro rfl; rw [e] at q; cases q
  have n2 : ∀ b o, H b = some o → (∀ φ, o ≠ .ext φ) → H1 b = some o := fun b o q ne => by
    rcases hH with e | ⟨⟨φ, e⟩, e1⟩
    · rw [e]; exact q
    · rw [e1, upd_ne]
      · exact q
      · rintro rfl; rw [e] at q; exact (ne _ (Option.some.inj q).symm).elim
  have n3 : ∀ b o, upd H2 a (.lst xs) b = some o → (o ≠ .lst xs) → upd H2 a (srcHO a) b = some o := fun b o q ne => by
    by_cases z : b = a
    · subst z; rw [upd_same] at q; exact (ne (Option.some.inj q).symm).elim
    · rw [upd_ne z] at q ⊢; exact q
  refine ⟨fun b o q r => u.keep b o q (n1 b r), fun b o q r => u.slot b o q (n1 b r), fun b o q r z => ?_, u.there, fun b ys q => n3 _ _ (u.tups b ys (n2 _ _ q fun _ e => nomatch e)) (fun e => nomatch e), fun b ob v q => n3 _ _ (u.frzs b ob v (n2 _ _ q fun _ e => nomatch e)) (fun e => nomatch e), fun b ps q => ?_⟩
  · have q1 := u.free b o q (n1 b r) z
    by_cases y : b = a
    · subst y; rw [upd_same] at q1; cases q1
    · rw [upd_ne y] at q1 ⊢; exact q1
  · obtain ⟨more, q1⟩ := u.tbls b ps (n2 _ _ q fun _ e => nomatch e)
    exact ⟨more, n3 _ _ q1 (fun e => nomatch e)⟩

/-! ### promises of what draws -/
/-- it computes m of the data behind the source -/
def spS (K : PySem.W.Frag) (mg : Str → Option Value) (n : Nat) (m : List PyData → R PyData) : Sp := fun vs H Q E => vs.length = n + 1 ∧ ∃ a us ds, vs = .ref a :: us ∧ H a = some (srcHO a) ∧ DpAll K H us ds ∧ PostF K mg H Q E (m ds)
def gCallS (i n : Nat) (gs : Rho → R (List PyData)) (m : List PyData → R PyData) : Rho → R PyData := fun ρ => match ρ[i]? with
  | some .s => (gs ρ).bd fun ds => if ds.length = n then m ds else .stuck
  | _ => .stuck
theorem sem_callS {X : Cx} {x y : Str} {i n k : Nat} {m : List PyData → R PyData} {es : List Expr} {gs : Rho → R (List PyData)} {p q pos : Pos} (F : FnF X.prog X.w X.K X.mg X.base k x (n + 1) (spS X.K X.mg n m)) (hr : Room k X.A) (ha : SemA X es gs) (hN : X.N[i]? = some y := by rfl) (hv : Vis X.env.scope y := by first | exact Or.inl rfl | exact Or.inr (Or.inl rfl) | exact Or.inr (Or.inr rfl)) (hg : Gl X x := by rfl)
    (hd : (y == ("__debug__" : Str)) = false := by decide) (hcd : (y == ("__classdict__" : Str)) = false := by decide) (hdb : (x == ("__debug__" : Str)) = false := by decide) (he : starEach (.Name y q :: es) X.env = (false, eval (.Name y q) X.env) :: starEach es X.env := by rfl) (hpl : (backTo pos (starEach es X.env)).any (·.1) = false := by rfl) :
    SemE X (.Call (.Name x p) (.Name y q :: es) [] pos) (gCallS i n gs m) := fun W tk => by
  obtain ⟨f, fd, ps, ok, hm, hk, hb, hl⟩ := F.ex
  refine pe_imp (pe_callS ok hr hg hm hk hb (fun σ => passAt tk σ) (pa_cons (pe_var hN hv hd hcd) (ha W tk) he) hdb he hpl) fun σ H Q ⟨ρ, env, post⟩ => ?_
  unfold gCallS at post
  cases z : ρ[i]? with
  | none => rw [z] at post; exact post.elim
  | some sl =>
    rw [z] at post
    cases sl with
    | s =>
      obtain ⟨a, h1, h2⟩ := env.getS z
      refine ⟨_, h1, ρ, env, PostG.seq post fun ds vs H1 _ s1 r1 post1 => ?_⟩
      split at post1
      · rename_i hn
        exact ⟨by rw [List.length_cons, dpAll_length r1, hn], a, vs, ds, rfl, s1 _ _ h2, r1, postF_of post1⟩
      · exact post1.elim
    | _ => exact post.elim
def runS (N : List Str) (g : Rho → O) (ds : List PyData) : R PyData := (g (.s :: startE N.tail ds)).done
theorem fnF_src {P : Program} {w : World} {K : PySem.W.Frag} {mg : Str → Option Value} {base : Heap} {k n : Nat} {x qual : Str} {params : Arguments} {body : List Stmt} {scope : Scope} {f : Addr} {N ps : List Str} {g : Rho → O}
    (F : ∃ fd, FunD K x qual params body scope [] [] f fd) (S : FnScope N ps scope) (hm : mg x = some (.ref f)) (hn : ps.length = n + 1)
    (hb : ∀ (kV doc pm : Value) (an : Option Addr) (cdv ct : Value) (us : List Value), us.length = ps.length → bindArgs (PySem.W.fnOf x qual params body scope .none kV doc pm an cdv ct) ⟨us, []⟩ = pure (ps.zip us))
    (hbody : ∀ (cdv : Value) (A : Around) (outer : List Env) (s : Shared) (H : Hp) (E : XK), Room k (A.deeper (envOfC qual scope s.heap.objs.size f cdv)) → SemSs (cxOf (L2.CX P w) P w K mg base N qual scope f cdv A outer s H E) body g) :
    FnF P w K mg base (k + 1) x (n + 1) (spS K mg n (runS N g)) := by
  obtain ⟨fd, F⟩ := F
  refine ⟨f, fd, ps, F.ok S (fun vs H Q E h => by rw [hn]; exact h.1) fun cdv A outer s H vs Q E hr ⟨hl, a, us, ds, e, ha, hd, post⟩ => ?_, hm, F.kp, F.bindsN hb, hn⟩
  subst e
  refine ⟨_, hbody cdv A outer s H E hr _ ⟨takes_of rfl rfl rfl rfl, passes_of rfl⟩, H, H, .s :: startE N.tail ds, ?_, post_done post⟩
  have e0 := envR_start (N := N.tail) hd
  have hN : ∃ y N', N = y :: N' := by
    cases N with
    | nil =>
      have h5 := S.pre
      rw [List.take_nil] at h5
      rw [← h5] at hn
      cases hn
    | cons y N' => exact ⟨y, N', rfl⟩
  obtain ⟨y, N', rfl⟩ := hN
  have e1 : L2.start (y :: N') (.ref a :: us) = some (.ref a) :: L2.start N' us := by
    unfold L2.start
    simp
  rw [e1]
  refine ⟨Same.refl H, .refl H, ⟨.cons ⟨a, rfl, ha⟩ e0.p, Dst.head startE_noOwn⟩, fun i ds' b h _ => ?_⟩
  rcases List.mem_cons.mp (List.mem_of_getElem? h) with e | hx
  · cases e
  · have := startE_noOwn _ hx
    cases this

theorem ofE {X : Cx} {W : WX} {e : Expr} {g : Rho → R PyData} (tk : Tk X W) (h : SemE X e g) : PE X e (tP X.K X.mg W g) := h W tk.tk
theorem ofT {X : Cx} {W : WX} {e : Expr} {g : Rho → R Bool} (tk : Tk X W) (h : SemT X e g) : PT X e (tPT X.K X.mg W g) := h W tk.tk
theorem ofA {X : Cx} {W : WX} {es : List Expr} {g : Rho → R (List PyData)} (tk : Tk X W) (h : SemA X es g) : PA X es (tPA X.K X.mg W g) := h W tk.tk
theorem ofS {X : Cx} {W : WX} {e : Stmt} {g : Rho → O} (tk : Tk X W) (h : SemS X e g) : PS X e (tPS X.K X.mg W g) := h W tk
theorem ofB {X : Cx} {W : WX} {e : List Stmt} {g : Rho → O} (tk : Tk X W) (h : SemSs X e g) : PSs X e (tPS X.K X.mg W g) := h W tk
/-! ### _law_draw -/
def gC (n : Int) : Rho → R PyData := gK (.int n)
def gAt (i : Nat) : Rho → R PyData := gIx (getV 0) (gC i)
def gInt (g : Rho → R PyData) : Rho → R PyData := gBlt intD (gCons g gNil)
/-- source[i] = e -/
def tPut (K : PySem.W.Frag) (mg : Str → Option Value) (W : WX) (i : Int) (g : Rho → R PyData) : TS := tAsg (tP K mg W g) (gSub (tVar 0) (tP K mg W (gC i)) rSetL)
def t_draw (K : PySem.W.Frag) (mg : Str → Option Value) (W : WX) : TS :=
  tSeq (tIfS (tPT K mg W (gCmp .Gt (gAt 0) (gC 0)))
      (tSeq (tAsg (tP K mg W (gBin .Mod (gInt (gAt 0)) (getV 1))) (gName 2)) (tSeq (tPut K mg W 0 (gBin .FloorDiv (gAt 0) (getV 1))) (tPS K mg W (sRet (getV 2)))))
      tNext)
    (tSeq (tPut K mg W 1 (gBin .Mod (gInt (gBin .Add (gBin .Mult (gAt 1) (gC 48271)) (gC 31))) (gC 2147483549)))
      (tPS K mg W (sSeq (sSet 3 (gBin .Mod (gInt (gBin .Mult (gAt 1) (gBin .Add (gBin .FloorDiv (gAt 1) (gC 9)) (gC 5)))) (gC 2147483399))) (sRet (gBin .Mod (gInt (gBin .FloorDiv (getV 3) (gC 32))) (getV 1))))))
def m_draw : List PyData → R PyData
  | [.int n] => if 0 < n ∧ n < 1073741824 then .ask n.toNat fun i => .ok (.int i) else .stuck
  | _ => .stuck
/-- the promise over the list -/
def spD : Sp := fun vs H Q _ => ∃ a c n many, vs = [.ref a, .int many] ∧ H a = some (.lst [.int c, .int n]) ∧ 0 ≤ c ∧ 0 ≤ n ∧ n < 2147483549 ∧ 0 < many ∧ many < 1073741824 ∧
  ∀ r c' n' H', 0 ≤ r → r < many → 0 ≤ c' → 0 ≤ n' → n' < 2147483549 → (∀ b, b ≠ a → ∀ o, H b = some o → H' b = some o) → H' a = some (.lst [.int c', .int n']) → Q (.int r) H'
theorem env_put {K : PySem.W.Frag} {H H' : Hp} {a : Addr} {c n c' n' : Int} {σ : L2.St} {rest : Rho} (env : EnvR K H σ (.d (.list [.int c, .int n]) :: rest)) (hσ : σ[0]? = some (some (.ref a))) (hr : ∀ x ∈ rest, ∃ d, (x = .d d ∧ noL d = true) ∨ x = .u) (ht : Tups K H H') (e : H' a = some (.lst [.int c', .int n'])) : EnvR K H' σ (.d (.list [.int c', .int n']) :: rest) := by
  refine ⟨?_, Dst.none fun x hx => ?_⟩
  · have envp := env.p
    clear env
    cases envp with
    | cons h1 h2 =>
      simp only [List.getElem?_cons_zero, Option.some.injEq] at hσ
      refine .cons ⟨.ref a, hσ, .lst (SqL.of e) (.cons (.int _) (.cons (.int _) .nil))⟩ ?_
      have key : ∀ {rest : Rho} {τ : L2.St}, EnvP K H τ rest → (∀ x ∈ rest, ∃ d, (x = .d d ∧ noL d = true) ∨ x = .u) → EnvP K H' τ rest := by
        intro rest
        induction rest with
        | nil => intro τ e _; cases e; exact .nil
        | cons x r ih =>
          intro τ e hx
          cases e with
          | cons p q =>
            refine .cons ?_ (ih q fun y hy => hx y (List.mem_cons_of_mem _ hy))
            obtain ⟨d, ⟨rfl, hn⟩ | rfl⟩ := hx x List.mem_cons_self
            · obtain ⟨v, e1, e2⟩ := p
              exact ⟨v, e1, dp_imm ht hn e2⟩
            · trivial
      exact key h2 hr
  · rcases List.mem_cons.mp hx with rfl | hx
    · rfl
    · obtain ⟨d, ⟨rfl, _⟩ | rfl⟩ := hr x hx <;> rfl
theorem put_rd {K : PySem.W.Frag} {mg : Str → Option Value} {W : WX} {D : Ends} {σ : L2.St} {H : Hp} {a : Addr} {i : Int} {c n v c' n' : Int} {rest : Rho} {g : Rho → R PyData} (env : EnvR K H σ (.d (.list [.int c, .int n]) :: rest)) (hσ : σ[0]? = some (some (.ref a))) (ha : H a = some (.lst [.int c, .int n])) (hr : ∀ x ∈ rest, ∃ d, (x = .d d ∧ noL d = true) ∨ x = .u)
    (hg : g (.d (.list [.int c, .int n]) :: rest) = .ok (.int v)) (hi : (i = 0 ∧ c' = v ∧ n' = n) ∨ (i = 1 ∧ c' = c ∧ n' = v))
    (k : ∀ H', (∀ b, b ≠ a → ∀ o, H b = some o → H' b = some o) → H' a = some (.lst [.int c', .int n']) → EnvR K H' σ (.d (.list [.int c', .int n']) :: rest) → D.nx σ H') : tPut K mg W i g D σ H := by
  refine ⟨_, env, ?_⟩
  rw [hg]
  intro x H1 s1 r1
  cases r1
  have env1 := env.same s1
  refine ⟨.ref a, hσ, _, env1, fun y H2 s2 r2 => ?_⟩
  cases r2
  have ha2 : H2 a = some (.lst [.int c, .int n]) := s2 _ _ (s1 _ _ ha)
  have env2 := env1.same s2
  rcases hi with ⟨rfl, rfl, rfl⟩ | ⟨rfl, rfl, rfl⟩
  · refine ⟨a, [.int c, .int n'], 0, 0, rfl, rfl, ha2, rfl, k _ (fun b hb o q => by rw [upd_ne hb]; exact s2 _ _ (s1 _ _ q)) upd_same ?_⟩
    exact env_put env2 hσ hr (Tups.list ha2) upd_same
  · refine ⟨a, [.int c', .int n], 1, 1, rfl, rfl, ha2, rfl, k _ (fun b hb o q => by rw [upd_ne hb]; exact s2 _ _ (s1 _ _ q)) upd_same ?_⟩
    exact env_put env2 hσ hr (Tups.list ha2) upd_same
theorem draw_rd {K : PySem.W.Frag} {mg : Str → Option Value} {W : WX} {Q : VK} {H : Hp} {a : Addr} {c n many : Int} (ha : H a = some (.lst [.int c, .int n])) (h0 : 0 ≤ c) (h1 : 0 ≤ n) (h2 : n < 2147483549) (hm : 0 < many) (hm2 : many < 1073741824)
    (k : ∀ r c' n' H', 0 ≤ r → r < many → 0 ≤ c' → 0 ≤ n' → n' < 2147483549 → (∀ b, b ≠ a → ∀ o, H b = some o → H' b = some o) → H' a = some (.lst [.int c', .int n']) → Q (.int r) H') :
    t_draw K mg W { nx := fun _ H' => Q .non H', rt := Q } (L2.start ["source", "many", "rest", "wide"] [.ref a, .int many]) H := by
  have env : EnvR K H (L2.start ["source", "many", "rest", "wide"] [.ref a, .int many]) [.d (.list [.int c, .int n]), .d (.int many), .u, .u] :=
    ⟨.cons ⟨_, rfl, .lst (SqL.of ha) (.cons (.int _) (.cons (.int _) .nil))⟩ (.cons ⟨_, rfl, .int _⟩ (.cons trivial (.cons trivial .nil))), Dst.none fun x hx => by
      rcases List.mem_cons.mp hx with rfl | hx
      · rfl
      · rcases List.mem_cons.mp hx with rfl | hx
        · rfl
        · rcases List.mem_cons.mp hx with rfl | hx
          · rfl
          · rcases List.mem_cons.mp hx with rfl | hx
            · rfl
            · cases hx⟩
  have e1 : gCmp .Gt (gAt 0) (gC 0) [.d (.list [.int c, .int n]), .d (.int many), .u, .u] = .ok (decide (0 < c)) := rfl
  have r0 : ∀ x ∈ ([.d (.int many), .u, .u] : Rho), ∃ d, (x = .d d ∧ noL d = true) ∨ x = .u := fun x hx => by
    rcases List.mem_cons.mp hx with rfl | hx
    · exact ⟨_, .inl ⟨rfl, rfl⟩⟩
    · rcases List.mem_cons.mp hx with rfl | hx
      · exact ⟨.none, .inr rfl⟩
      · rcases List.mem_cons.mp hx with rfl | hx
        · exact ⟨.none, .inr rfl⟩
        · cases hx
  have hmod : ∀ x : Int, modD (.int x) (.int many) = some (.int (x % many)) := fun x => by
    show (if 0 < many then some (x % many) else none).map PyData.int = _
    rw [if_pos hm]; rfl
  have hdiv : ∀ x : Int, fdivD (.int x) (.int many) = some (.int (x / many)) := fun x => by
    show (if 0 < many ∧ many < 1073741824 then some (x / many) else none).map PyData.int = _
    rw [if_pos ⟨hm, hm2⟩]; rfl
  unfold t_draw
  refine ⟨_, env, ?_⟩
  rw [e1]
  intro b H1 s1 eb
  subst eb
  have ha1 : H1 a = some (.lst [.int c, .int n]) := s1 _ _ ha
  have env1 := env.same s1
  by_cases hc : 0 < c
  · rw [if_pos (decide_eq_true hc)]
    have e2 : gBin .Mod (gInt (gAt 0)) (getV 1) [.d (.list [.int c, .int n]), .d (.int many), .u, .u] = .ok (.int (c % many)) := by
      show R.of (modD (.int c) (.int many)) = _
      rw [hmod]; rfl
    refine ⟨_, env1, ?_⟩
    rw [e2]
    intro v H2 s2 rv
    cases rv
    have env2 : EnvR K H2 ((L2.start ["source", "many", "rest", "wide"] [.ref a, .int many]).set 2 (some (.int (c % many)))) [.d (.list [.int c, .int n]), .d (.int many), .d (.int (c % many)), .u] := (env1.same s2).setD 2 (.int _)
    refine put_rd (c := c) (n := n) (v := c / many) (c' := c / many) (n' := n) env2 rfl (s2 _ _ ha1) ?_ ?_ (.inl ⟨rfl, rfl, rfl⟩) fun H3 keep3 ha3 env3 => ?_
    · intro x hx
      rcases List.mem_cons.mp hx with rfl | hx
      · exact ⟨_, .inl ⟨rfl, rfl⟩⟩
      · rcases List.mem_cons.mp hx with rfl | hx
        · exact ⟨_, .inl ⟨rfl, rfl⟩⟩
        · rcases List.mem_cons.mp hx with rfl | hx
          · exact ⟨.none, .inr rfl⟩
          · cases hx
    · show R.of (fdivD (.int c) (.int many)) = _
      rw [hdiv]; rfl
    · refine tPS_of env3 (fun x hx ds e => ?_) fun v H4 s4 rv => ?_
      · subst e; simp at hx
      cases rv
      exact k _ (c / many) n H4 (Int.emod_nonneg _ (by omega)) (Int.emod_lt_of_pos _ hm) (Int.ediv_nonneg h0 (by omega)) h1 h2 (fun b hb o q => s4 _ _ (keep3 b hb o (s2 _ _ (s1 _ _ q)))) (s4 _ _ ha3)
  · rw [if_neg (fun z => hc (of_decide_eq_true z))]
    have hmul : ∀ x : Int, mulD (.int x) (.int 48271) = some (.int (x * 48271)) := fun x => by
      show (if (-(2 ^ 64) < x ∧ x < 2 ^ 64) ∨ (-(2 ^ 64) < (48271 : Int) ∧ (48271 : Int) < 2 ^ 64) then some (PyData.int (x * 48271)) else none) = _
      rw [if_pos (.inr (by omega))]
    refine put_rd (c := c) (n := n) (v := (n * 48271 + 31) % 2147483549) (c' := c) (n' := (n * 48271 + 31) % 2147483549) env1 rfl ha1 r0 ?_ (.inr ⟨rfl, rfl, rfl⟩) fun H3 keep3 ha3 env3 => ?_
    · show ((((R.of (mulD (.int n) (.int 48271))).bd fun x => (R.ok (.int 31)).bd fun y => R.of (addD x y)).bd fun x => R.ok [x]).bd fun xs => R.of (intD xs)).bd (fun x => (R.ok (.int 2147483549)).bd fun y => R.of (modD x y)) = _
      rw [hmul]
      rfl
    · have b1 : 0 ≤ (n * 48271 + 31) % 2147483549 := Int.emod_nonneg _ (by omega)
      have b2 : (n * 48271 + 31) % 2147483549 < 2147483549 := Int.emod_lt_of_pos _ (by omega)
      refine tPS_of env3 (fun x hx ds e => by subst e; simp at hx) ?_
      generalize (n * 48271 + 31) % 2147483549 = m at *
      have hmul2 : mulD (.int m) (.int (m / 9 + 5)) = some (.int (m * (m / 9 + 5))) := by
        show (if (-(2 ^ 64) < m ∧ m < 2 ^ 64) ∨ (-(2 ^ 64) < m / 9 + 5 ∧ m / 9 + 5 < 2 ^ 64) then some (PyData.int (m * (m / 9 + 5))) else none) = _
        rw [if_pos (.inl (by omega))]
      have e3 : (sSeq (sSet 3 (gBin .Mod (gInt (gBin .Mult (gAt 1) (gBin .Add (gBin .FloorDiv (gAt 1) (gC 9)) (gC 5)))) (gC 2147483399))) (sRet (gBin .Mod (gInt (gBin .FloorDiv (getV 3) (gC 32))) (getV 1)))) [.d (.list [.int c, .int m]), .d (.int many), .u, .u] = .rt (.int (m * (m / 9 + 5) % 2147483399 / 32 % many)) := by
        show (((((R.of (mulD (.int m) (.int (m / 9 + 5)))).bd fun x => R.ok [x]).bd fun xs => R.of (intD xs)).bd (fun x => (R.ok (.int 2147483399)).bd fun y => R.of (modD x y))).to [.d (.list [.int c, .int m]), .d (.int many), .u, .u] fun d => .nx [.d (.list [.int c, .int m]), .d (.int many), .u, .d d]).th _ = _
        rw [hmul2]
        show (R.of (modD (.int (m * (m / 9 + 5) % 2147483399 / 32)) (.int many))).to _ _ = _
        rw [hmod]
        rfl
      rw [e3]
      intro v H4 s4 rv
      cases rv
      exact k _ c m H4 (Int.emod_nonneg _ (by omega)) (Int.emod_lt_of_pos _ hm) h0 b1 b2 (fun b hb o q => s4 _ _ (keep3 b hb o (s1 _ _ q))) (s4 _ _ ha3)

/-- a call's end, the list for the source -/
theorem ce_src {H H1 : Hp} {outer : List Env} {s s' : Shared} {Q Q1 : VK} {u : Value} {P : Program} {w : World} (hc : CE outer P w H1 s Q1 u s') (hq : ∀ v H', Q1 v H' → ∃ a c n H2, H' = upd H2 a (.lst [.int c, .int n]) ∧ 0 ≤ c ∧ 0 ≤ n ∧ n < 2147483549 ∧ (H1 = H ∨ (∃ φ, H a = some (.ext φ)) ∧ ∃ o, H1 = upd H a o) ∧ Q v (upd H2 a (srcHO a))) : CE outer P w H s Q u s' := by
  obtain ⟨v, H', e1, e2, un, hok, r, q⟩ := hc
  obtain ⟨a, c, n, H2, rfl, h0, h1, h2, hh, q2⟩ := hq v H' q
  refine ⟨v, _, e1, e2, ?_, hok_src hok h0 h1 h2, r, q2⟩
  rcases hh with e | ⟨z, o, e⟩
  · exact un_src (o1 := .lst []) un (.inl e)
  · exact un_src un (.inr ⟨z, e⟩)
theorem upd_self {H : Hp} {a : Addr} {o : HO} (h : H a = some o) : upd H a o = H := funext fun b => by
  by_cases e : b = a
  · subst e; rw [upd_same, h]
  · rw [upd_ne e]
theorem ok_draw {P : Program} {w : World} {K : PySem.W.Frag} {mg : Str → Option Value} {base : Heap} {k : Nat} {f : Addr} {fd : FuncData} (F : FnOk P w K mg base (L2.CX P w) k f fd ["source", "many"] spD) : FnOk P w K mg base (L2.CX P w) k f fd ["source", "many"] (spS K mg 1 m_draw) := by
  refine ⟨fun vs H Q E h => h.1, fun A outer s H args us vs Q E hr he hb hv ⟨hl, a, vs', ds, e, ha, hd, post⟩ => ?_⟩
  subst e
  match ds, hd, post with
  | [.int many], hd, post =>
    cases hd with
    | cons h1 h2 =>
      cases h2
      cases h1
      have post : PostF K mg H Q E (if 0 < many ∧ many < 1073741824 then .ask many.toNat fun i => .ok (.int i) else .stuck) := post
      by_cases hm : 0 < many ∧ many < 1073741824
      case neg => rw [if_neg hm] at post; exact post.elim
      rw [if_pos hm] at post
      obtain ⟨⟨c, n, t, u, kk, h0, h1, h2, eo⟩, _, _⟩ := (show ObjOk P w H s.heap a (srcHO a) from he.hok a _ ha)
      have hne : ∀ b, H b = none → upd H a (.lst [.int c, .int n]) b = none := fun b z => by
        rw [upd_ne]
        · exact z
        · rintro rfl
          rw [ha] at z
          cases z
      have he1 : Env0 P w K mg base A outer s (upd H a (.lst [.int c, .int n])) := ⟨he.frames, he.mod, fun b o q => ⟨(he.bs b o q).1, hne b (he.bs b o q).2⟩, he.bsz, he.funs, fun b hb' => hne b (he.frf b hb'), hok_list he.hok ha eo, he.bare⟩
      refine codeAny_mono (F.run A outer s (upd H a (.lst [.int c, .int n])) args us _ (fun v H' => ∃ c' n' H2, H' = upd H2 a (.lst [.int c', .int n']) ∧ 0 ≤ c' ∧ 0 ≤ n' ∧ n' < 2147483549 ∧ Q v (upd H2 a (srcHO a))) (fun _ _ _ => False) hr he1 hb hv
        ⟨a, c, n, many, rfl, upd_same, h0, h1, h2, hm.1, hm.2, fun r c' n' H' hr0 hrm hc' hn' hn2 keep hlst => ⟨c', n', H', (upd_self hlst).symm, hc', hn', hn2, ?_⟩⟩) fun r s' hq => ?_
      · have sm : Same H (upd H' a (srcHO a)) := fun b o q => by
          by_cases z : b = a
          · subst z; rw [upd_same, ← ha]; exact q
          · rw [upd_ne z]; exact keep b z o (by rw [upd_ne z]; exact q)
        have e : ((r.toNat : Nat) : Int) = r := Int.toNat_of_nonneg hr0
        have z := post r.toNat (by omega) (.int r) _ sm (by rw [e]; exact .int r)
        exact z
      · cases r with
        | error e =>
          obtain ⟨_, _, _, _, _, _, _, _, _, _, _, _, hf⟩ := (show L2.CX P w outer (upd H a (.lst [.int c, .int n])) s (fun _ _ _ => False) e s' from hq)
          exact hf.elim
        | ok fl =>
          cases fl with
          | ret u => exact ce_src hq fun v H' ⟨c', n', H2, e, q0, q1, q2, q3⟩ => ⟨a, c', n', H2, e, q0, q1, q2, .inr ⟨⟨_, ha⟩, _, rfl⟩, q3⟩
          | _ => exact False.elim hq
theorem fnF_draw {P : Program} {w : World} {K : PySem.W.Frag} {mg : Str → Option Value} {base : Heap} {k : Nat} {qual : Str} {params : Arguments} {body : List Stmt} {scope : Scope} {f : Addr}
    (F : ∃ fd, FunD K "_law_draw" qual params body scope [] [] f fd) (S : FnScope ["source", "many", "rest", "wide"] ["source", "many"] scope) (hm : mg "_law_draw" = some (.ref f))
    (hb : ∀ (kV doc pm : Value) (an : Option Addr) (cdv ct : Value) (us : List Value), us.length = ["source", "many"].length → bindArgs (PySem.W.fnOf "_law_draw" qual params body scope .none kV doc pm an cdv ct) ⟨us, []⟩ = pure ((["source", "many"] : List Str).zip us))
    (hbody : ∀ (cdv : Value) (A : Around) (outer : List Env) (s : Shared) (H : Hp) (E : XK), Room k (A.deeper (envOfC qual scope s.heap.objs.size f cdv)) → ∀ W, Tk (cxOf (L2.CX P w) P w K mg base ["source", "many", "rest", "wide"] qual scope f cdv A outer s H E) W → PSs (cxOf (L2.CX P w) P w K mg base ["source", "many", "rest", "wide"] qual scope f cdv A outer s H E) body (t_draw K mg W)) :
    FnF P w K mg base (k + 1) "_law_draw" 2 (spS K mg 1 m_draw) := by
  obtain ⟨fd, F⟩ := F
  refine ⟨f, fd, ["source", "many"], ok_draw (F.ok S (fun vs H Q E h => ?_) fun cdv A outer s H vs Q E hr ⟨a, c, n, many, e, ha, h0, h1, h2, h3, h4, k⟩ => ⟨_, hbody cdv A outer s H E hr _ ⟨takes_of rfl rfl rfl rfl, passes_of rfl⟩, ?_⟩), hm, F.kp, F.bindsN hb, rfl⟩
  · obtain ⟨a, c, n, many, e, _⟩ := h
    rw [e]; rfl
  · rw [e]
    exact draw_rd ha h0 h1 h2 h3 h4 k

/-! ### _law_source -/
def sCell : Rho → O := sSet 2 (gIf (gCmp .Lt (getV 1) (gBlt lenD (gCons (getV 0) gNil))) (gBlt absD (gCons (gInt (gIx (getV 0) (getV 1))) gNil)) (gBin .Add (gBin .Mult (gC 43) (getV 1)) (gC 5)))
def gsSB : Rho → R (List PyData) := (gCons (gBin .Mod (gInt (gBin .Add (gBin .Add (gBin .Mult (getV 2) (gC 16807)) (gBin .Mult (gC 7013) (getV 1))) (gC 11))) (gC 2147483549)) gNil)
def gsSrc : Rho → R (List PyData) := gCons (gIf (gCmp .Gt (getV 2) (gBin .Pow (gC 10) (gC 17))) (getV 2) (gC 0)) gsSB
def t_source (K : PySem.W.Frag) (mg : Str → Option Value) (W : WX) : TS := tSeq (tPS K mg W sCell) (tRet (tLst (tPA K mg W gsSrc)))
def isI : PyData → Bool
  | .int _ => true
  | _ => false
def srcOk : List PyData → Bool
  | [.list xs, .int k] => xs.all isI && decide (0 ≤ k)
  | _ => false
def spL (K : PySem.W.Frag) : Sp := fun vs H Q _ => vs.length = 2 ∧ ∃ ds, DpAll K H vs ds ∧ srcOk ds = true ∧ ∀ p c n H1, Same H H1 → H1 p = none → 0 ≤ c → 0 ≤ n → n < 2147483549 → Q (.ref p) (upd H1 p (.lst [.int c, .int n]))
def spN (K : PySem.W.Frag) : Sp := fun vs H Q _ => vs.length = 2 ∧ ∃ ds, DpAll K H vs ds ∧ srcOk ds = true ∧ ∀ p H1, Same H H1 → H1 p = none → Q (.ref p) (upd H1 p (srcHO p))
theorem source_rd {K : PySem.W.Frag} {mg : Str → Option Value} {W : WX} {Q : VK} {E : XK} {H : Hp} {vs : List V} (h : spL K vs H Q E) : t_source K mg W { nx := fun _ H' => Q .non H', rt := Q } (L2.start ["script", "k", "cell"] vs) H := by
  obtain ⟨hl, ds, hd, ho, k⟩ := h
  match ds, hd, ho with
  | [.list xs, .int kk], hd, ho =>
    obtain ⟨hx, hk⟩ := Bool.and_eq_true_iff.mp ho
    have hk := of_decide_eq_true hk
    have env := envR_start (N := ["script", "k", "cell"]) hd
    have env : EnvR K H (L2.start ["script", "k", "cell"] vs) [.d (.list xs), .d (.int kk), .u] := env
    have hmul : ∀ x y : Int, 0 ≤ y → y < 1000000 → mulD (.int x) (.int y) = some (.int (x * y)) := fun x y h1 h2 => by
      show (if (-(2 ^ 64) < x ∧ x < 2 ^ 64) ∨ (-(2 ^ 64) < y ∧ y < 2 ^ 64) then some (PyData.int (x * y)) else none) = _
      rw [if_pos (.inr (by omega))]
    have hmul2 : ∀ x y : Int, 0 ≤ x → x < 1000000 → mulD (.int x) (.int y) = some (.int (x * y)) := fun x y h1 h2 => by
      show (if (-(2 ^ 64) < x ∧ x < 2 ^ 64) ∨ (-(2 ^ 64) < y ∧ y < 2 ^ 64) then some (PyData.int (x * y)) else none) = _
      rw [if_pos (.inl (by omega))]
    have key : ∃ c : Int, 0 ≤ c ∧ sCell [.d (.list xs), .d (.int kk), .u] = .nx [.d (.list xs), .d (.int kk), .d (.int c)] := by
      by_cases hlt : kk < (xs.length : Int)
      · obtain ⟨x, ex⟩ : ∃ x, xs[kk.toNat]? = some (.int x) := by
          have hl2 : kk.toNat < xs.length := by omega
          have hi := List.all_eq_true.mp hx _ (List.getElem_mem hl2)
          cases e : xs[kk.toNat] with
          | int x => exact ⟨x, by rw [List.getElem?_eq_getElem hl2, e]⟩
          | _ => rw [e] at hi; cases hi
        refine ⟨if x < 0 then -x else x, by split <;> omega, ?_⟩
        have e1 : idxD (.list xs) (.int kk) = some (.int x) := by
          show (ixN xs.length kk).bind (fun j => xs[j]?) = _
          unfold ixN
          rw [if_pos hk, if_pos hlt]
          exact ex
        show (((R.of (some (decide (kk < (xs.length : Int))))).bd fun b => if b = true then ((((R.of (idxD (.list xs) (.int kk))).bd fun x => R.ok [x]).bd fun xs => R.of (intD xs)).bd fun x => R.ok [x]).bd fun xs => R.of (absD xs) else (((R.of (mulD (.int 43) (.int kk))).bd fun x => (R.ok (.int 5)).bd fun y => R.of (addD x y)))).to [.d (.list xs), .d (.int kk), .u] fun d => .nx [.d (.list xs), .d (.int kk), .d d]) = _
        rw [decide_eq_true hlt, e1]
        rfl
      · refine ⟨43 * kk + 5, by omega, ?_⟩
        show (((R.of (some (decide (kk < (xs.length : Int))))).bd fun b => if b = true then ((((R.of (idxD (.list xs) (.int kk))).bd fun x => R.ok [x]).bd fun xs => R.of (intD xs)).bd fun x => R.ok [x]).bd fun xs => R.of (absD xs) else (((R.of (mulD (.int 43) (.int kk))).bd fun x => (R.ok (.int 5)).bd fun y => R.of (addD x y)))).to [.d (.list xs), .d (.int kk), .u] fun d => .nx [.d (.list xs), .d (.int kk), .d d]) = _
        rw [decide_eq_false hlt, hmul2 43 kk (by omega) (by omega)]
        rfl
    obtain ⟨c, hc, e1⟩ := key
    refine tPS_of env (fun x hx ds e => by subst e; simp at hx) ?_
    rw [e1]
    intro σ1 H1 envO1
    have s1 := envO1.s
    have env1 := envO1.e
    have e2 : ∃ c' : Int, 0 ≤ c' ∧ gsSrc [.d (.list xs), .d (.int kk), .d (.int c)] = .ok [.int c', .int ((c * 16807 + 7013 * kk + 11) % 2147483549)] := by
      have eb : gsSB [.d (.list xs), .d (.int kk), .d (.int c)] = .ok [.int ((c * 16807 + 7013 * kk + 11) % 2147483549)] := by
        show ((((((R.of (mulD (.int c) (.int 16807))).bd fun x => (R.of (mulD (.int 7013) (.int kk))).bd fun y => R.of (addD x y)).bd fun x => (R.ok (.int 11)).bd fun y => R.of (addD x y)).bd fun x => R.ok [x]).bd fun xs => R.of (intD xs)).bd (fun x => (R.ok (.int 2147483549)).bd fun y => R.of (modD x y))).bd (fun x => R.ok [x]) = _
        rw [hmul _ _ (by omega) (by omega), hmul2 _ _ (by omega) (by omega)]
        rfl
      by_cases hb : (10 : Int) ^ 17 < c
      · refine ⟨c, hc, ?_⟩
        show ((R.of (some (decide ((10 : Int) ^ 17 < c)))).bd fun b => if b = true then R.ok (.int c) else R.ok (.int 0)).bd (fun x => (gsSB [.d (.list xs), .d (.int kk), .d (.int c)]).bd fun xs => R.ok (x :: xs)) = _
        rw [decide_eq_true hb, eb]
        rfl
      · refine ⟨0, Int.le_refl _, ?_⟩
        show ((R.of (some (decide ((10 : Int) ^ 17 < c)))).bd fun b => if b = true then R.ok (.int c) else R.ok (.int 0)).bd (fun x => (gsSB [.d (.list xs), .d (.int kk), .d (.int c)]).bd fun xs => R.ok (x :: xs)) = _
        rw [decide_eq_false hb, eb]
        rfl
    obtain ⟨c', hc', e2⟩ := e2
    refine ⟨_, env1, ?_⟩
    rw [e2]
    intro vs2 H2 s2 r2
    cases r2 with
    | cons r2 r3 =>
      cases r2
      cases r3 with
      | cons r3 r4 =>
        cases r3
        cases r4
        exact ⟨by rw [sizeLine_eq]; show 2 ≤ 16777216; decide, fun p hp => k p _ _ H2 (s1.trans s2) hp hc' (Int.emod_nonneg _ (by omega)) (Int.emod_lt_of_pos _ (by omega))⟩

theorem ok_source {P : Program} {w : World} {K : PySem.W.Frag} {mg : Str → Option Value} {base : Heap} {k : Nat} {f : Addr} {fd : FuncData} (F : FnOk P w K mg base (L2.CX P w) k f fd ["script", "k"] (spL K)) : FnOk P w K mg base (L2.CX P w) k f fd ["script", "k"] (spN K) := by
  refine ⟨fun vs H Q E h => h.1, fun A outer s H args us vs Q E hr he hb hv ⟨hl, ds, hd, ho, k⟩ => ?_⟩
  refine codeAny_mono (F.run A outer s H args us vs (fun v H' => ∃ a c n H2, H' = upd H2 a (.lst [.int c, .int n]) ∧ 0 ≤ c ∧ 0 ≤ n ∧ n < 2147483549 ∧ Q v (upd H2 a (srcHO a))) (fun _ _ _ => False) hr he hb hv
    ⟨hl, ds, hd, ho, fun p c n H1 s1 hp h0 h1 h2 => ⟨p, c, n, H1, rfl, h0, h1, h2, k p H1 s1 hp⟩⟩) fun r s' hq => ?_
  cases r with
  | error e =>
    obtain ⟨_, _, _, _, _, _, _, _, _, _, _, _, hf⟩ := (show L2.CX P w outer H s (fun _ _ _ => False) e s' from hq)
    exact hf.elim
  | ok fl =>
    cases fl with
    | ret u => exact ce_src hq fun v H' ⟨a, c', n', H2, e, q0, q1, q2, q3⟩ => ⟨a, c', n', H2, e, q0, q1, q2, .inl rfl, q3⟩
    | _ => exact False.elim hq
theorem fnF_source {P : Program} {w : World} {K : PySem.W.Frag} {mg : Str → Option Value} {base : Heap} {k : Nat} {qual : Str} {params : Arguments} {body : List Stmt} {scope : Scope} {f : Addr}
    (F : ∃ fd, FunD K "_law_source" qual params body scope [] [] f fd) (S : FnScope ["script", "k", "cell"] ["script", "k"] scope) (hm : mg "_law_source" = some (.ref f))
    (hb : ∀ (kV doc pm : Value) (an : Option Addr) (cdv ct : Value) (us : List Value), us.length = ["script", "k"].length → bindArgs (PySem.W.fnOf "_law_source" qual params body scope .none kV doc pm an cdv ct) ⟨us, []⟩ = pure ((["script", "k"] : List Str).zip us))
    (hbody : ∀ (cdv : Value) (A : Around) (outer : List Env) (s : Shared) (H : Hp) (E : XK), Room k (A.deeper (envOfC qual scope s.heap.objs.size f cdv)) → ∀ W, Tk (cxOf (L2.CX P w) P w K mg base ["script", "k", "cell"] qual scope f cdv A outer s H E) W → PSs (cxOf (L2.CX P w) P w K mg base ["script", "k", "cell"] qual scope f cdv A outer s H E) body (t_source K mg W)) :
    FnF P w K mg base (k + 1) "_law_source" 2 (spN K) := by
  obtain ⟨fd, F⟩ := F
  refine ⟨f, fd, ["script", "k"], ok_source (F.ok S (fun vs H Q E h => h.1) fun cdv A outer s H vs Q E hr h => ⟨_, hbody cdv A outer s H E hr _ ⟨takes_of rfl rfl rfl rfl, passes_of rfl⟩, source_rd h⟩), hm, F.kp, F.bindsN hb, rfl⟩
/-- source = _law_source(script, k) -/
def sSrc (i : Nat) (gs : Rho → R (List PyData)) : Rho → O := fun ρ => (gs ρ).to ρ fun ds => if srcOk ds = true then .nx (ρ.set i .s) else .stuck
theorem sem_setSrc {X : Cx} {x y : Str} {i k : Nat} {e : Expr} {es : List Expr} {gs : Rho → R (List PyData)} {p py pos pos2 : Pos} (hN : X.N.Nodup) (F : FnF X.prog X.w X.K X.mg X.base k x 2 (spN X.K)) (hr : Room k X.A) (ha : SemA X (e :: es) gs) (hlen : es.length = 1 := by rfl) (hg : Gl X x := by rfl)
    (hdb : (x == ("__debug__" : Str)) = false := by decide) (he : starEach (e :: es) X.env = (false, eval e X.env) :: starEach es X.env := by rfl) (hpl : (backTo pos (starEach es X.env)).any (·.1) = false := by rfl)
    (hi : X.N[i]? = some y := by rfl) (hx : Loc X.env.scope y := by first | exact Or.inl rfl | exact Or.inr rfl) (hs : swapsWith (.Call (.Name x p) (e :: es) [] pos) (some (.Name y py)) pos2.line X.env = pure false := by rfl) (hf : X.fn y = true ∨ X.env.scope.names.lookup y = some .local := by first | exact .inl rfl | exact .inr rfl | assumption) :
    SemS X (.Assign [.Name y py] (.Call (.Name x p) (e :: es) [] pos) pos2) (sSrc i gs) := fun W tk => by
  obtain ⟨f, fd, ps, ok, hm, hk, hb, hl⟩ := F.ex
  refine ps_imp (ps_set hN hi hx (pe_callS ok hr hg hm hk hb (fun σ => passAt tk.tk σ) (ha W tk.tk) hdb he hpl) hs hf) fun D σ H ⟨H0, Hb, ρ, env, post⟩ => ⟨ρ, env.e, post_to env post fun ds vs H1 s1 r1 post1 => ?_⟩
  split at post1
  · rename_i ho
    refine ⟨?_, ds, r1, ho, fun p H' s2 hp => ?_⟩
    · rw [dpAll_length r1]
      match ds, ho with
      | [.list _, .int _], _ => rfl
    · exact post1 _ _ ((env.same (s1.trans s2)).new (u := srcHO p) (x := .s) hp ⟨p, rfl, upd_same⟩ i)
  · exact post1.elim
end
end RL

namespace RL
open PySem PySem.Spec PyProof.Rows L2
section
variable {P : Program} {w : World} {K : PySem.W.Frag} {mg : Str → Option Value} {base : Heap} {k n : Nat} {x qual : Str} {params : Arguments} {body : List Stmt} {scope : Scope} {f : Addr} {N ps : List Str}
/-- nothing promised -/
theorem fnF_noneP (F : ∃ fd, FunD K x qual params body scope [] [] f fd) (S : FnScope N ps scope) (hm : mg x = some (.ref f)) (hn : ps.length = n)
    (hb : ∀ (kV doc pm : Value) (an : Option Addr) (cdv ct : Value) (us : List Value), us.length = ps.length → bindArgs (PySem.W.fnOf x qual params body scope .none kV doc pm an cdv ct) ⟨us, []⟩ = pure (ps.zip us)) :
    FnF P w K mg base k x n (spP K mg n fun _ => .stuck) := by
  obtain ⟨fd, F⟩ := F
  exact ⟨f, fd, ps, ⟨fun vs H Q E h => by rw [hn]; exact h.1, fun A outer s H args us vs Q E hr he hb hv ⟨hl, ds, hd, post⟩ => post.elim⟩, hm, F.kp, F.bindsN hb, hn⟩
theorem fnF_noneS (F : ∃ fd, FunD K x qual params body scope [] [] f fd) (S : FnScope N ps scope) (hm : mg x = some (.ref f)) (hn : ps.length = n + 1)
    (hb : ∀ (kV doc pm : Value) (an : Option Addr) (cdv ct : Value) (us : List Value), us.length = ps.length → bindArgs (PySem.W.fnOf x qual params body scope .none kV doc pm an cdv ct) ⟨us, []⟩ = pure (ps.zip us)) :
    FnF P w K mg base k x (n + 1) (spS K mg n fun _ => .stuck) := by
  obtain ⟨fd, F⟩ := F
  exact ⟨f, fd, ps, ⟨fun vs H Q E h => by rw [hn]; exact h.1, fun A outer s H args us vs Q E hr he hb hv ⟨hl, a, us', ds, e, ha, hd, post⟩ => post.elim⟩, hm, F.kp, F.bindsN hb, hn⟩
end

/-! ### every answer -/
inductive Sat {α : Type} : R α → (α → Prop) → Prop where
  | ok {a : α} {Q : α → Prop} (h : Q a) : Sat (.ok a) Q
  | ask {n : Nat} {k : Nat → R α} {Q : α → Prop} (h : ∀ i, i < n → Sat (k i) Q) : Sat (.ask n k) Q
theorem Sat.of_ok {α : Type} {a : α} {Q : α → Prop} (h : Sat (.ok a) Q) : Q a := by cases h; assumption
theorem Sat.of_ask {α : Type} {n : Nat} {k : Nat → R α} {Q : α → Prop} (h : Sat (.ask n k) Q) : ∀ i, i < n → Sat (k i) Q := by cases h; assumption
theorem Sat.eq {α : Type} {m : R α} {a : α} {Q : α → Prop} (h : m = .ok a) (h2 : Q a) : Sat m Q := by rw [h]; exact .ok h2
theorem Sat.bd {α β : Type} {m : R α} {f : α → R β} {Q : β → Prop} (h : Sat m fun a => Sat (f a) Q) : Sat (m.bd f) Q := by
  induction m with
  | ok a => exact h.of_ok
  | exc n => cases h
  | stuck => cases h
  | ask n k ih => exact .ask fun i hi => ih i (h.of_ask i hi)
theorem Sat.imp {α : Type} {m : R α} {Q Q' : α → Prop} (h : Sat m Q) (i : ∀ a, Q a → Q' a) : Sat m Q' := by
  induction m with
  | ok a => exact .ok (i _ h.of_ok)
  | exc n => cases h
  | stuck => cases h
  | ask n k ih => exact .ask fun j hj => ih j (h.of_ask j hj)
theorem Sat.calm {α : Type} {m : R α} {Q : α → Prop} (h : Sat m Q) : Sat m.calm Q := by
  induction m with
  | ok a => exact .ok h.of_ok
  | exc n => cases h
  | stuck => cases h
  | ask n k ih => exact .ask fun j hj => ih j (h.of_ask j hj)
inductive SatO : O → (Rho → Prop) → (PyData → Prop) → Prop where
  | nx0 {ρ : Rho} {N : Rho → Prop} {Q : PyData → Prop} (h : N ρ) : SatO (.nx ρ) N Q
  | rt0 {d : PyData} {N : Rho → Prop} {Q : PyData → Prop} (h : Q d) : SatO (.rt d) N Q
  | ask0 {n : Nat} {k : Nat → O} {N : Rho → Prop} {Q : PyData → Prop} (h : ∀ i, i < n → SatO (k i) N Q) : SatO (.ask n k) N Q
theorem SatO.of_nx {ρ : Rho} {N : Rho → Prop} {Q : PyData → Prop} (h : SatO (.nx ρ) N Q) : N ρ := by cases h; assumption
theorem SatO.of_rt {d : PyData} {N : Rho → Prop} {Q : PyData → Prop} (h : SatO (.rt d) N Q) : Q d := by cases h; assumption
theorem SatO.of_ask {n : Nat} {k : Nat → O} {N : Rho → Prop} {Q : PyData → Prop} (h : SatO (.ask n k) N Q) : ∀ i, i < n → SatO (k i) N Q := by cases h; assumption
theorem SatO.th {o : O} {f : Rho → O} {N : Rho → Prop} {Q : PyData → Prop} (h : SatO o (fun ρ => SatO (f ρ) N Q) Q) : SatO (o.th f) N Q := by
  induction o with
  | nx ρ => exact h.of_nx
  | rt d => exact .rt0 h.of_rt
  | exc n => cases h
  | stuck => cases h
  | ask n k ih => exact .ask0 fun i hi => ih i (h.of_ask i hi)
theorem Sat.to {α : Type} {m : R α} {ρ : Rho} {f : α → O} {N : Rho → Prop} {Q : PyData → Prop} (h : Sat m fun a => SatO (f a) N Q) : SatO (m.to ρ f) N Q := by
  induction m with
  | ok a => exact h.of_ok
  | exc n => cases h
  | stuck => cases h
  | ask n k ih => exact .ask0 fun i hi => ih i (h.of_ask i hi)
theorem SatO.imp {o : O} {N N' : Rho → Prop} {Q Q' : PyData → Prop} (h : SatO o N Q) (i : ∀ ρ, N ρ → N' ρ) (j : ∀ d, Q d → Q' d) : SatO o N' Q' := by
  induction o with
  | nx ρ => exact .nx0 (i _ h.of_nx)
  | rt d => exact .rt0 (j _ h.of_rt)
  | exc n => cases h
  | stuck => cases h
  | ask n k ih => exact .ask0 fun l hl => ih l (h.of_ask l hl)
theorem SatO.done {o : O} {Q : PyData → Prop} (h : SatO o (fun _ => Q .none) Q) : Sat o.done Q := by
  induction o with
  | nx ρ => exact .ok h.of_nx
  | rt d => exact .ok h.of_rt
  | exc n => cases h
  | stuck => cases h
  | ask n k ih => exact .ask fun i hi => ih i (h.of_ask i hi)
theorem postF_sat {K : PySem.W.Frag} {mg : Str → Option Value} {H : Hp} {E : XK} {m : R PyData} (h : Sat m (· = .bool true)) : PostF K mg H (fun v _ => v = .bl true) E m := by
  induction m with
  | ok a => rw [show a = .bool true from h.of_ok]; intro v H' s r; cases r; rfl
  | exc n => cases h
  | stuck => cases h
  | ask n k ih => exact fun i hi => ih i (h.of_ask i hi)
theorem SatO.seq_nx {g g' : Rho → O} {ρ ρ' : Rho} {N : Rho → Prop} {Q : PyData → Prop} (h : g ρ = .nx ρ') (h2 : SatO (g' ρ') N Q) : SatO (sSeq g g' ρ) N Q := by
  unfold sSeq
  rw [h]
  exact h2
theorem SatO.seq_rt {g g' : Rho → O} {ρ : Rho} {d : PyData} {N : Rho → Prop} {Q : PyData → Prop} (h : g ρ = .rt d) (h2 : Q d) : SatO (sSeq g g' ρ) N Q := by
  unfold sSeq
  rw [h]
  exact .rt0 h2
theorem SatO.seq_ask {g g' : Rho → O} {ρ : Rho} {n : Nat} {k : Nat → Rho} {N : Rho → Prop} {Q : PyData → Prop} (h : g ρ = .ask n fun i => .nx (k i)) (h2 : ∀ i, i < n → SatO (g' (k i)) N Q) : SatO (sSeq g g' ρ) N Q := by
  unfold sSeq
  rw [h]
  exact .ask0 h2
theorem SatO.seq {g g' : Rho → O} {ρ : Rho} {N : Rho → Prop} {Q : PyData → Prop} (h : SatO (g ρ) (fun ρ' => SatO (g' ρ') N Q) Q) : SatO (sSeq g g' ρ) N Q := SatO.th h
theorem SatO.rt {o : O} {d : PyData} {N : Rho → Prop} {Q : PyData → Prop} (h : o = .rt d) (h2 : Q d) : SatO o N Q := by rw [h]; exact .rt0 h2
theorem SatO.nx {o : O} {ρ : Rho} {N : Rho → Prop} {Q : PyData → Prop} (h : o = .nx ρ) (h2 : N ρ) : SatO o N Q := by rw [h]; exact .nx0 h2
theorem SatO.set {g : Rho → R PyData} {i : Nat} {ρ : Rho} {N : Rho → Prop} {Q : PyData → Prop} (h : Sat (g ρ) fun d => N (ρ.set i (.d d))) : SatO (sSet i g ρ) N Q := Sat.to (h.imp fun _ h => .nx0 h)
theorem SatO.ret {g : Rho → R PyData} {ρ : Rho} {N : Rho → Prop} {Q : PyData → Prop} (h : Sat (g ρ) Q) : SatO (sRet g ρ) N Q := Sat.to (h.imp fun _ h => .rt0 h)
theorem SatO.for {T : Tg} {gi : Rho → R (List PyData)} {gb : Rho → O} {ρ : Rho} {ds : List PyData} {N : Rho → Prop} {Q : PyData → Prop} (h : gi ρ = .ok ds) (h2 : SatO (forD T gb ds ρ) N Q) : SatO (sFor T gi gb ρ) N Q := by
  unfold sFor
  rw [h]
  exact h2
theorem SatO.if {gt : Rho → R Bool} {g g' : Rho → O} {ρ : Rho} {b : Bool} {N : Rho → Prop} {Q : PyData → Prop} (h : gt ρ = .ok b) (h1 : b = true → SatO (g ρ) N Q) (h2 : b = false → SatO (g' ρ) N Q) : SatO (sIf gt g g' ρ) N Q := by
  unfold sIf
  rw [h]
  cases b with
  | true => exact h1 rfl
  | false => exact h2 rfl
/-- a loop keeps a law -/
theorem sat_for {T : Tg} {body : Rho → O} {Q : PyData → Prop} (I : Nat → Rho → Prop) {ds : List PyData} (hb : ∀ i d ρ, ds[i]? = some d → I i ρ → ∃ xs, T.vals d = some xs ∧ SatO (body (setE ρ T.ix xs)) (I (i + 1)) Q) {ρ : Rho} (h0 : I 0 ρ) : SatO (forD T body ds ρ) (I ds.length) Q := by
  have key : ∀ n i ρ, n + i = ds.length → I i ρ → SatO (forD T body (ds.drop i) ρ) (I ds.length) Q := by
    intro n
    induction n with
    | zero =>
      intro i ρ e h
      rw [List.drop_of_length_le (by omega)]
      have e : i = ds.length := by omega
      subst e
      exact .nx0 h
    | succ n ih =>
      intro i ρ e h
      have hlt : i < ds.length := by omega
      rw [List.drop_eq_getElem_cons hlt]
      unfold forD
      obtain ⟨xs, h1, h2⟩ := hb i ds[i] ρ (List.getElem?_eq_getElem hlt) h
      rw [h1]
      exact SatO.th (h2.imp (fun ρ' h' => ih (i + 1) ρ' (by omega) h') fun _ h => h)
  exact key ds.length 0 ρ (by omega) h0
/-- a comprehension -/
theorem sat_lc {T : Tg} {tt : Rho → R Bool} {te : Rho → R PyData} {ρ : Rho} {P : PyData → Prop} {ds : List PyData} (h : ∀ d, d ∈ ds → ∃ xs, T.vals d = some xs ∧ Sat (tt (setE ρ T.ix xs)) fun b => b = true → Sat (te (setE ρ T.ix xs)) fun y => noL y = true ∧ P y) : Sat (lcD T tt te ρ ds) fun ys => ∀ y ∈ ys, P y := by
  induction ds with
  | nil => exact .ok fun y hy => nomatch hy
  | cons d r ih =>
    unfold lcD
    obtain ⟨xs, h1, h2⟩ := h d List.mem_cons_self
    have ih := ih fun e he => h e (List.mem_cons_of_mem _ he)
    rw [h1]
    refine Sat.bd (Sat.calm (h2.imp fun b hb => ?_))
    split
    · rename_i hbt
      refine Sat.bd (Sat.calm ((hb hbt).imp fun y ⟨hn, hy⟩ => ?_))
      rw [if_pos hn]
      refine Sat.bd (ih.imp fun ys hys => .ok ?_)
      intro z hz
      rcases List.mem_cons.mp hz with rfl | hz
      · exact hy
      · exact hys z hz
    · exact ih
/-- one behind another, one for one -/
theorem sat_lc1 {T : Tg} {te : Rho → R PyData} {ρ : Rho} {P : PyData → PyData → Prop} {ds : List PyData} (h : ∀ d, d ∈ ds → ∃ xs, T.vals d = some xs ∧ Sat (te (setE ρ T.ix xs)) fun y => noL y = true ∧ P d y) : Sat (lcD T gYes te ρ ds) fun ys => Paired P ds ys := by
  induction ds with
  | nil => exact .ok .nil
  | cons d r ih =>
    unfold lcD
    obtain ⟨xs, h1, h2⟩ := h d List.mem_cons_self
    have ih := ih fun e he => h e (List.mem_cons_of_mem _ he)
    rw [h1]
    show Sat ((te (setE ρ T.ix xs)).calm.bd _) _
    refine Sat.bd (Sat.calm (h2.imp fun y ⟨hn, hy⟩ => ?_))
    rw [if_pos hn]
    exact Sat.bd (ih.imp fun ys hys => .ok (.cons hy hys))
end RL
namespace RL
open PySem PySem.Spec PyProof.Rows L2
/-! ### constants of the module, as the head sees them -/
mutual
def okV (K : PySem.W.Frag) : PyData → Value → Bool
  | .none, .none => true
  | .bool b, .bool c => b == c
  | .int i, .int j _ => decide (i = j)
  | .str x, .str y _ => decide (x = y)
  | .tuple ds, .ref a => (match K.lookup a with
    | some ⟨.type c, _, .seq its _, _⟩ => decide (c = "tuple") && (decide (its.size ≤ sizeLine) && okVs K ds its.toList)
    | _ => false)
  | _, _ => false
def okVs (K : PySem.W.Frag) : List PyData → List Value → Bool
  | [], [] => true
  | d :: ds, v :: vs => okV K d v && okVs K ds vs
  | _, _ => false
end
mutual
theorem okV_ok {K : PySem.W.Frag} : ∀ {d : PyData} {u : Value}, okV K d u = true → ∃ v, RelV v u ∧ ∀ H, Dp K H v d
  | .none, u, h => by
    cases u with
    | none => exact ⟨.non, rfl, fun H => .non⟩
    | _ => simp [okV] at h
  | .bool b, u, h => by
    cases u with
    | bool c => simp [okV] at h; subst h; exact ⟨.bl b, rfl, fun H => .bl b⟩
    | _ => simp [okV] at h
  | .int i, u, h => by
    cases u with
    | int j t => simp [okV] at h; subst h; exact ⟨.int i, ⟨t, rfl⟩, fun H => .int i⟩
    | _ => simp [okV] at h
  | .str x, u, h => by
    cases u with
    | str y t => simp [okV] at h; subst h; exact ⟨.str x, ⟨t, rfl⟩, fun H => .str x⟩
    | _ => simp [okV] at h
  | .tuple ds, u, h => by
    cases u with
    | ref a =>
      unfold okV at h
      cases e : K.lookup a with
      | none => rw [e] at h; cases h
      | some o =>
        obtain ⟨oc, od, dt, osl⟩ := o
        rw [e] at h
        cases oc with
        | type c =>
          cases dt with
          | seq its n =>
            obtain ⟨h1, h2⟩ := Bool.and_eq_true_iff.mp h
            obtain ⟨h2, h3⟩ := Bool.and_eq_true_iff.mp h2
            obtain ⟨vs, r, hd⟩ := okVs_ok h3
            refine ⟨.ref a, rfl, fun H => .tup (.inr ⟨_, its, n, e, ?_, rfl, of_decide_eq_true h2, r⟩) (hd H)⟩
            rw [of_decide_eq_true h1]
          | _ => cases h
        | _ => cases h
    | _ => simp [okV] at h
  | .list ds, u, h => by cases u <;> simp [okV] at h
  | .dict ds, u, h => by cases u <;> simp [okV] at h
theorem okVs_ok {K : PySem.W.Frag} : ∀ {ds : List PyData} {us : List Value}, okVs K ds us = true → ∃ vs, Vals vs us ∧ ∀ H, DpAll K H vs ds
  | [], [], h => ⟨[], .nil, fun H => .nil⟩
  | [], _ :: _, h => by simp [okVs] at h
  | _ :: _, [], h => by simp [okVs] at h
  | d :: ds, u :: us, h => by
    unfold okVs at h
    obtain ⟨h1, h2⟩ := Bool.and_eq_true_iff.mp h
    obtain ⟨v, r, hv⟩ := okV_ok h1
    obtain ⟨vs, rs, hvs⟩ := okVs_ok h2
    exact ⟨v :: vs, .cons r rs, fun H => .cons (hv H) (hvs H)⟩
end
def valB (K : PySem.W.Frag) (x : Str) (d : PyData) : Bool := match PySem.W.nsIn K mainGlobals x with
  | some (some u) => okV K d u
  | _ => false
theorem valB_ok {K : PySem.W.Frag} {h : Heap} {mg : Str → Option Value} (X : K.In h) (G : h.Ns mainGlobals mg) {x : Str} {d : PyData} (c : valB K x d = true) : ValF K mg x d := by
  unfold valB at c
  cases e : PySem.W.nsIn K mainGlobals x with
  | none => rw [e] at c; cases c
  | some o =>
    rw [e] at c
    cases o with
    | none => cases c
    | some u =>
      obtain ⟨v, r, hd⟩ := okV_ok c
      exact ⟨v, u, PySem.W.mg_of X G e, r, hd⟩
theorem exF_ok {K : PySem.W.Frag} {h : Heap} {mg : Str → Option Value} (X : K.In h) (G : h.Ns mainGlobals mg) {x : Str} (c1 : (He.Fa.glo x).ok K = true) (c2 : (He.Fa.exc x).ok K = true) : ExF K mg x := by
  obtain ⟨h1, h2, h3, h4⟩ := He.exc_ok c2
  exact ⟨_, He.glo_ok X G c1, h1, h2, h3, h4⟩
/-- the script as data -/
theorem dp_script {K : PySem.W.Frag} {H : Hp} {a : Addr} {ns : List Int} (h : SqL K H a (ns.map V.int)) : DpAll K H [.ref a] [.list (ns.map .int)] := by
  refine .cons (.lst h ?_) .nil
  clear h
  induction ns with
  | nil => exact .nil
  | cons n r ih => exact .cons (.int n) ih
/-- the law's own def: it lets nothing out -/
def spW (K : PySem.W.Frag) (mg : Str → Option Value) (n : Nat) (m : List PyData → R PyData) : Sp := fun vs H Q _ => vs.length = n ∧ ∃ ds, DpAll K H vs ds ∧ PostF K mg H Q (fun _ _ _ => False) (m ds)
theorem ok_law0 {P : Program} {w : World} {K : PySem.W.Frag} {mg : Str → Option Value} {base : Heap} {k : Nat} {x qual : Str} {params : Arguments} {body : List Stmt} {scope : Scope} {f : Addr} {N : List Str} {g : Rho → O}
    {fd : FuncData} (F : FunD K x qual params body scope [] [] f fd) (S : FnScope N ["script"] scope)
    (hb : ∀ (kV doc pm : Value) (an : Option Addr) (cdv ct : Value) (us : List Value), us.length = (["script"] : List Str).length → bindArgs (PySem.W.fnOf x qual params body scope .none kV doc pm an cdv ct) ⟨us, []⟩ = pure ((["script"] : List Str).zip us))
    (hbody : ∀ (cdv : Value) (A : Around) (outer : List Env) (s : Shared) (H : Hp) (E : XK), Room k (A.deeper (envOfC qual scope s.heap.objs.size f cdv)) → SemSs (cxOf CX0 P w K mg base N qual scope f cdv A outer s H E) body g) :
    (∀ (s : Shared) (v : Value), BindsTo s fd ⟨[v], []⟩ [("script", v)]) ∧ FnOk P w K mg base CX0 (k + 1) f fd ["script"] (spW K mg 1 (runD N g)) := by
  have b := FunD.bindsA (ps := ["script"]) F hb
  refine ⟨fun s v => b s [v] rfl, F.ok S (fun vs H Q E h => h.1) fun cdv A outer s H vs Q E hr ⟨hl, ds, hd, post⟩ => ?_⟩
  exact ⟨_, hbody cdv A outer s H E hr W0 ⟨takes0, passes_of rfl⟩, H, H, startE N ds, envO_start hd, post_done post⟩
/-- a law's promise from its plain form -/
theorem law_sp {K : PySem.W.Frag} {mg : Str → Option Value} {m : List PyData → R PyData} (hm : ∀ ns : List Int, ns.length ≤ 63 → Sat (m [.list (ns.map .int)]) (· = .bool true)) (H : Hp) (a : Addr) (ns : List Int) (hl : ns.length ≤ 63) (h : SqL K H a (ns.map V.int)) : spW K mg 1 m [.ref a] H (fun v _ => v = .bl true) fun _ _ _ => False :=
  ⟨rfl, _, dp_script h, postF_sat (hm ns hl)⟩
end RL

namespace RL
open PySem PySem.Spec PyProof.Rows L2
section
variable {ga gb gc g : Rho → R PyData} {gs : Rho → R (List PyData)} {ta tb : Rho → R Bool} {ρ : Rho} {op op' : Operator} {cp cp' : CmpOp} {gi : Rho → R (List PyData)} {s s' : Rho → O} {i n : Nat} {m : List PyData → R PyData} {gl gh : Rho → R (Option Int)}
@[simp] theorem e_gK {d : PyData} : gK d ρ = .ok d := rfl
@[simp] theorem e_gNil : gNil ρ = .ok [] := rfl
@[simp] theorem e_gCons : gCons g gs ρ = (g ρ).bd fun x => (gs ρ).bd fun xs => .ok (x :: xs) := rfl
@[simp] theorem e_gTup : gTup gs ρ = (gs ρ).bd fun xs => lineOk xs (.ok (.tuple xs)) := rfl
@[simp] theorem e_gLst : gLst gs ρ = (gs ρ).bd fun xs => lineOk xs (.ok (.list xs)) := rfl
@[simp] theorem e_gBin : gBin op ga gb ρ = (ga ρ).bd fun x => (gb ρ).bd fun y => R.of (binD op x y) := rfl
@[simp] theorem e_gNeg : gNeg ga ρ = (ga ρ).bd negD := rfl
@[simp] theorem e_gCmp : gCmp cp ga gb ρ = (ga ρ).bd fun x => (gb ρ).bd fun y => R.of (cmpD cp x y) := rfl
@[simp] theorem e_asV : asV ta ρ = (ta ρ).bd fun b => .ok (.bool b) := rfl
@[simp] theorem e_gChain : gChain cp cp' ga gb gc ρ = (ga ρ).bd fun x => (gb ρ).bd fun y => (R.of (cmpD cp x y)).bd fun k => if k = true then (gc ρ).bd fun z => R.of (cmpD cp' y z) else .ok false := rfl
@[simp] theorem e_gIsN : gIsN ga ρ = (ga ρ).bd fun x => .ok (.bool (isNone x)) := rfl
@[simp] theorem e_gNotN : gNotN ga ρ = (ga ρ).bd fun x => .ok (.bool (!isNone x)) := rfl
@[simp] theorem e_gBB {f : Bool → Bool → Bool} : gBB f ga gb ρ = (ga ρ).bd fun x => (gb ρ).bd fun y => R.of ((bbD f x y).map .bool) := rfl
@[simp] theorem e_gTest : gTest g ρ = (g ρ).bd fun x => R.of (asB x) := rfl
@[simp] theorem e_gNotT : gNotT ta ρ = (ta ρ).bd fun x => .ok (!x) := rfl
@[simp] theorem e_gNot : gNot ga ρ = (ga ρ).bd fun x => R.of ((asB x).map fun b => .bool (!b)) := rfl
@[simp] theorem e_gIf : gIf ta ga gb ρ = (ta ρ).bd fun c => if c = true then ga ρ else gb ρ := rfl
@[simp] theorem e_gAnd : gAnd ta tb ρ = (ta ρ).bd fun c => if c = true then tb ρ else .ok false := rfl
@[simp] theorem e_gOr : gOr ta tb ρ = (ta ρ).bd fun c => if c = true then .ok true else tb ρ := rfl
@[simp] theorem e_gAndV : gAndV ga gb ρ = (ga ρ).bd fun x => (R.of (asB x)).bd fun c => if c = true then gb ρ else .ok (.bool false) := rfl
@[simp] theorem e_gOrV : gOrV ga gb ρ = (ga ρ).bd fun x => (R.of (asB x)).bd fun c => if c = true then .ok (.bool true) else gb ρ := rfl
@[simp] theorem e_gIx : gIx ga gb ρ = (ga ρ).bd fun x => (gb ρ).bd fun y => R.of (idxD x y) := rfl
@[simp] theorem e_gON : gON ρ = .ok none := rfl
@[simp] theorem e_gOS : gOS ga ρ = (ga ρ).bd fun x => (R.of (asI x)).bd fun i => .ok (some i) := rfl
@[simp] theorem e_gSl : gSl ga gl gh ρ = (ga ρ).bd fun x => (gl ρ).bd fun l => (gh ρ).bd fun h => R.of (sliceD l h x) := rfl
@[simp] theorem e_gBlt {F : List PyData → Option PyData} : gBlt F gs ρ = (gs ρ).bd fun xs => R.of (F xs) := rfl
@[simp] theorem e_gIsi {T : Ty} : gIsi T ga ρ = (ga ρ).bd fun x => .ok (.bool (isTy T x)) := rfl
@[simp] theorem e_gIsiT {ts : List Ty} : gIsiT ts ga ρ = (ga ρ).bd fun x => .ok (.bool (ts.any fun t => isTy t x)) := rfl
@[simp] theorem e_gCall : gCall n gs m ρ = (gs ρ).bd fun ds => if ds.length = n then m ds else .stuck := rfl
@[simp] theorem e_gCall0 : gCall0 m ρ = m [] := rfl
@[simp] theorem e_sNil : sNil ρ = .nx ρ := rfl
@[simp] theorem e_sSeq : sSeq s s' ρ = (s ρ).th s' := rfl
@[simp] theorem e_sRet : sRet g ρ = (g ρ).to ρ .rt := rfl
@[simp] theorem e_sExpr : sExpr g ρ = (g ρ).to ρ fun _ => .nx ρ := rfl
@[simp] theorem e_sSet : sSet i g ρ = (g ρ).to ρ fun d => .nx (ρ.set i (.d d)) := rfl
@[simp] theorem e_sAsg {T : Tg} : sAsg T g ρ = (g ρ).to ρ (tgO T ρ) := rfl
@[simp] theorem e_sIf : sIf ta s s' ρ = (ta ρ).to ρ fun b => if b = true then s ρ else s' ρ := rfl
@[simp] theorem e_sExc {x : Str} : sExc x ρ = .exc x ρ := rfl
@[simp] theorem e_iSeq : iSeq g ρ = (g ρ).bd fun x => R.of (asSeq x) := rfl
@[simp] theorem e_iR1 : iR1 g ρ = (g ρ).bd fun x => R.of (range1D x) := rfl
@[simp] theorem e_iR2 : iR2 ga gb ρ = (ga ρ).bd fun x => (gb ρ).bd fun y => R.of (range2D x y) := rfl
@[simp] theorem e_iEn : iEn ga ρ = (ga ρ).bd fun x => R.of ((asSeq x).map (enumL 0)) := rfl
@[simp] theorem e_iZi : iZi ga gb ρ = (ga ρ).bd fun x => (gb ρ).bd fun y => R.of (zipD x y) := rfl
@[simp] theorem e_sFor {T : Tg} : sFor T gi s ρ = (gi ρ).to ρ fun ds => forD T s ds ρ := rfl
@[simp] theorem e_gYes : gYes ρ = .ok true := rfl
@[simp] theorem e_gLc {T : Tg} {own : List Nat} : gLc T own gi ta g ρ = (gi ρ).bd fun ds => if ds.length ≤ sizeLine then (lcD T ta g (wipeE ρ own) ds).bd fun ys => .ok (.list ys) else .stuck := rfl
@[simp] theorem e_sPar {is : List Nat} : sPar is gs ρ = (gs ρ).to ρ fun ds => if ds.length = is.length then .nx (setE ρ is ds) else .stuck := rfl
@[simp] theorem e_gListR : gListR ga ρ = (ga ρ).bd fun x => R.of (listR x) := rfl
@[simp] theorem e_gSplit : gSplit ga gb ρ = (ga ρ).bd fun x => (R.of (asStr x)).bd fun x => (gb ρ).bd fun y => R.of (splitD x y) := rfl
@[simp] theorem e_gJoin : gJoin ga gb ρ = (ga ρ).bd fun x => (R.of (asStr x)).bd fun x => (gb ρ).bd fun y => R.of (joinD x y) := rfl
@[simp] theorem e_gDsel {ks : List Str} : gDsel ks gs gb ρ = (gs ρ).bd fun ds => (R.of (dokD ks ds)).bd fun _ => (gb ρ).bd fun x => R.of (dselD ks ds x) := rfl
@[simp] theorem e_gCallS {x : Sl} (h : ρ[i]? = some .s) : gCallS i n gs m ρ = (gs ρ).bd fun ds => if ds.length = n then m ds else .stuck := by unfold gCallS; rw [h]
@[simp] theorem e_sSrc : sSrc i gs ρ = (gs ρ).to ρ fun ds => if srcOk ds = true then .nx (ρ.set i .s) else .stuck := rfl
theorem e_get {x : PyData} (h : ρ[i]? = some (.d x)) : getV i ρ = .ok x := by unfold getV; rw [h]
@[simp] theorem e_get0 {x : PyData} {r : Rho} : getV 0 (.d x :: r) = .ok x := rfl
@[simp] theorem e_getS {x : Sl} {r : Rho} : getV (i + 1) (x :: r) = getV i r := rfl
@[simp] theorem e_lineNil {α : Type} {k : R PyData} : lineOk ([] : List α) k = k := by unfold lineOk; exact if_pos (Nat.zero_le _)
theorem e_line {α : Type} {xs : List α} {k : R PyData} (h : xs.length ≤ 1000) : lineOk xs k = k := by unfold lineOk; rw [if_pos (by rw [sizeLine_eq]; omega)]
@[simp] theorem e_setE0 : setE ρ [] [] = ρ := rfl
@[simp] theorem e_setE1 {j : Nat} {is : List Nat} {d : PyData} {ds : List PyData} : setE ρ (j :: is) (d :: ds) = setE (ρ.set j (.d d)) is ds := rfl
@[simp] theorem e_ix1 {j : Nat} : (Tg.one j).ix = [j] := rfl
@[simp] theorem e_ixm {is : List Nat} : (Tg.many is).ix = is := rfl
@[simp] theorem e_v1 {j : Nat} {d : PyData} : (Tg.one j).vals d = some [d] := rfl
@[simp] theorem e_vm {is : List Nat} {ds : List PyData} : (Tg.many is).vals (.tuple ds) = if ds.length = is.length then some ds else none := rfl
@[simp] theorem e_forN {T : Tg} : forD T s [] ρ = .nx ρ := rfl
@[simp] theorem e_lcN {T : Tg} : lcD T ta g ρ [] = .ok [] := rfl
@[simp] theorem e_done1 {d : PyData} : (O.rt d).done = .ok d := rfl
@[simp] theorem e_done2 : (O.nx ρ).done = .ok .none := rfl
@[simp] theorem e_done3 {x : Str} : (O.exc x ρ).done = .exc x := rfl
@[simp] theorem e_done4 {k : Nat → O} : (O.ask n k).done = .ask n fun i => (k i).done := rfl
@[simp] theorem e_calm1 {α : Type} {a : α} : (R.ok a).calm = .ok a := rfl
@[simp] theorem e_calm4 {α : Type} {k : Nat → R α} : (R.ask n k).calm = .ask n fun i => (k i).calm := rfl
theorem O.done_ite {c : Prop} [Decidable c] {a b : O} : (if c then a else b).done = if c then a.done else b.done := by split <;> rfl
theorem O.th_ite {c : Prop} [Decidable c] {a b : O} {f : Rho → O} : (if c then a else b).th f = if c then a.th f else b.th f := by split <;> rfl
theorem R.to_ite {α : Type} {c : Prop} [Decidable c] {a b : R α} {ρ : Rho} {f : α → O} : (if c then a else b).to ρ f = if c then a.to ρ f else b.to ρ f := by split <;> rfl
theorem R.calm_ite {α : Type} {c : Prop} [Decidable c] {a b : R α} : (if c then a else b).calm = if c then a.calm else b.calm := by split <;> rfl
end
/-! ### data functions -/
@[simp] theorem d_add : binD .Add = addD := rfl
@[simp] theorem d_sub : binD .Sub = subD := rfl
@[simp] theorem d_mul : binD .Mult = mulD := rfl
@[simp] theorem d_fdiv : binD .FloorDiv = fdivD := rfl
@[simp] theorem d_mod : binD .Mod = modD := rfl
@[simp] theorem d_addI {i j : Int} : addD (.int i) (.int j) = some (.int (i + j)) := rfl
@[simp] theorem d_subI {i j : Int} : subD (.int i) (.int j) = some (.int (i - j)) := rfl
theorem d_addT {xs ys : List PyData} (h : xs.length + ys.length ≤ 1000) : addD (.tuple xs) (.tuple ys) = some (.tuple (xs ++ ys)) := by show (if _ then _ else _) = _; rw [if_pos (by rw [sizeLine_eq]; omega)]
theorem d_addL {xs ys : List PyData} (h : xs.length + ys.length ≤ 1000) : addD (.list xs) (.list ys) = some (.list (xs ++ ys)) := by show (if _ then _ else _) = _; rw [if_pos (by rw [sizeLine_eq]; omega)]
@[simp] theorem d_eq : cmpD .Eq = eqD := rfl
@[simp] theorem d_ne : cmpD .NotEq = neD := rfl
@[simp] theorem d_lt {i j : Int} : cmpD .Lt (.int i) (.int j) = some (decide (i < j)) := rfl
@[simp] theorem d_le {i j : Int} : cmpD .LtE (.int i) (.int j) = some (decide (i ≤ j)) := rfl
@[simp] theorem d_gt {i j : Int} : cmpD .Gt (.int i) (.int j) = some (decide (j < i)) := rfl
@[simp] theorem d_ge {i j : Int} : cmpD .GtE (.int i) (.int j) = some (decide (j ≤ i)) := rfl
@[simp] theorem d_in : cmpD .In = inD := rfl
@[simp] theorem d_notin : cmpD .NotIn = notInD := rfl
@[simp] theorem d_asB {b : Bool} : asB (.bool b) = some b := rfl
@[simp] theorem d_asI {i : Int} : asI (.int i) = some i := rfl
@[simp] theorem d_asSL {ds : List PyData} : asSeq (.list ds) = some ds := rfl
@[simp] theorem d_asST {ds : List PyData} : asSeq (.tuple ds) = some ds := rfl
@[simp] theorem d_lenL {ds : List PyData} : lenD [.list ds] = some (.int ds.length) := rfl
@[simp] theorem d_lenT {ds : List PyData} : lenD [.tuple ds] = some (.int ds.length) := rfl
@[simp] theorem d_tupL {ds : List PyData} : tupleD [.list ds] = some (.tuple ds) := by first | rfl | simp [tupleD]
/-- of a small depth, its texts sound -/
def flat : PyData → Bool
  | .none => true
  | .bool _ => true
  | .int _ => true
  | .str x => PyData.strOk x
  | _ => false
def shN : Nat → PyData → Bool
  | 0, d => flat d
  | n + 1, .tuple ds => ds.all (shN n)
  | n + 1, .list ds => ds.all (shN n)
  | _ + 1, d => flat d
theorem flat_lay {d : PyData} (h : flat d = true) : d.canLay0 = true ∧ d.depth ≤ 0 := by
  cases d <;> simp_all [flat, PyData.canLay0, PyData.depth]
theorem sh_of : ∀ {n : Nat} {d : PyData}, shN n d = true → d.canLay0 = true ∧ d.depth ≤ n
  | 0, d, h => flat_lay h
  | n + 1, d, h => by
    have key : ∀ ds : List PyData, ds.all (shN n) = true → PyData.canLayAll0 ds = true ∧ PyData.depthAll ds ≤ n := by
      intro ds
      induction ds with
      | nil => intro _; simp [PyData.canLayAll0, PyData.depthAll]
      | cons x r ih =>
        intro h
        obtain ⟨h1, h2⟩ := Bool.and_eq_true_iff.mp h
        obtain ⟨a1, a2⟩ := sh_of h1
        obtain ⟨b1, b2⟩ := ih h2
        simp only [PyData.canLayAll0, PyData.depthAll, a1, b1, Bool.and_self, true_and]
        omega
    cases d with
    | tuple ds =>
      obtain ⟨a, b⟩ := key ds h
      simp only [PyData.canLay0, PyData.depth, a, true_and]; omega
    | list ds =>
      obtain ⟨a, b⟩ := key ds h
      simp only [PyData.canLay0, PyData.depth, a, true_and]; omega
    | _ =>
      obtain ⟨a, b⟩ := flat_lay (show flat _ = true from h)
      exact ⟨a, by omega⟩
theorem isS_of {n : Nat} {d : PyData} (h : shN n d = true) (hn : n ≤ 64 := by decide) : isS d = true := by
  obtain ⟨a, b⟩ := sh_of h
  exact Bool.and_eq_true_iff.mpr ⟨a, decide_eq_true (by omega)⟩
@[simp] theorem isS_int {i : Int} : isS (.int i) = true := isS_of (n := 0) rfl
@[simp] theorem isS_bool {i : Bool} : isS (.bool i) = true := isS_of (n := 0) rfl
@[simp] theorem isS_none : isS .none = true := isS_of (n := 0) rfl
@[simp] theorem isS_nilT : isS (.tuple []) = true := isS_of (n := 1) rfl
@[simp] theorem isS_nilL : isS (.list []) = true := isS_of (n := 1) rfl
theorem eq_of {d e : PyData} (h : isS d = true) (h2 : isS e = true) : eqD d e = some (PyData.eqv d e) := by unfold eqD; rw [h, h2]; rfl
theorem ne_of' {d e : PyData} (h : isS d = true) (h2 : isS e = true) : neD d e = some (!PyData.eqv d e) := by unfold neD; rw [h, h2]; rfl
@[simp] theorem eq_ii {i j : Int} : eqD (.int i) (.int j) = some (decide (i = j)) := by rw [eq_of (by simp) (by simp)]; rfl
@[simp] theorem ne_ii {i j : Int} : neD (.int i) (.int j) = some (!decide (i = j)) := by rw [ne_of' (by simp) (by simp)]; rfl
@[simp] theorem eq_bb {i j : Bool} : eqD (.bool i) (.bool j) = some (i == j) := by rw [eq_of (by simp) (by simp)]; rfl
@[simp] theorem ne_bb {i j : Bool} : neD (.bool i) (.bool j) = some (!(i == j)) := by rw [ne_of' (by simp) (by simp)]; rfl
theorem shN_mono : ∀ {n m : Nat} {d : PyData}, n ≤ m → shN n d = true → shN m d = true
  | 0, 0, d, _, h => h
  | 0, m + 1, d, _, h => by
    cases d with
    | tuple ds => cases h
    | list ds => cases h
    | _ => exact h
  | n + 1, m + 1, d, hl, h => by
    have key : ∀ ds : List PyData, ds.all (shN n) = true → ds.all (shN m) = true := fun ds h => List.all_eq_true.mpr fun x hx => shN_mono (by omega) (List.all_eq_true.mp h x hx)
    cases d with
    | tuple ds => exact key ds h
    | list ds => exact key ds h
    | _ => exact h
theorem cut_take {α : Type} {xs : List α} {j : Nat} : cutL xs none (some (j : Int)) = xs.take j := by
  unfold cutL
  rw [HT.sIx_none, HT.sIx_nat, List.drop_zero, Nat.sub_zero, Nat.min_def]
  split
  · rfl
  · rw [List.take_length, List.take_of_length_le (by omega)]
theorem cut_drop {α : Type} {xs : List α} {j : Nat} : cutL xs (some (j : Int)) none = xs.drop j := by
  unfold cutL
  rw [HT.sIx_none, HT.sIx_nat, Nat.min_def]
  split
  · rw [List.take_of_length_le (by rw [List.length_drop]; omega)]
  · rw [List.drop_length, List.take_nil, List.drop_of_length_le (by omega)]
theorem d_takeT {xs : List PyData} {j : Nat} : sliceD none (some (j : Int)) (.tuple xs) = some (.tuple (xs.take j)) := by show some (PyData.tuple (cutL xs none (some (j : Int)))) = _; rw [cut_take]
theorem d_dropT {xs : List PyData} {j : Nat} : sliceD (some (j : Int)) none (.tuple xs) = some (.tuple (xs.drop j)) := by show some (PyData.tuple (cutL xs (some (j : Int)) none)) = _; rw [cut_drop]
theorem d_dropT1 {xs : List PyData} {j : Nat} : sliceD (some ((j : Int) + 1)) none (.tuple xs) = some (.tuple (xs.drop (j + 1))) := by
  rw [show ((j : Int) + 1) = ((j + 1 : Nat) : Int) by omega, d_dropT]
theorem d_takeT1 {xs : List PyData} {j : Nat} : sliceD none (some ((j : Int) + 1)) (.tuple xs) = some (.tuple (xs.take (j + 1))) := by
  rw [show ((j : Int) + 1) = ((j + 1 : Nat) : Int) by omega, d_takeT]
theorem d_ixT {xs : List PyData} {j : Nat} (h : j < xs.length) : idxD (.tuple xs) (.int j) = some xs[j] := by
  show (ixN xs.length j).bind (fun j => xs[j]?) = _
  unfold ixN
  rw [if_pos (by omega), if_pos (by omega)]
  show xs[(j : Int).toNat]? = _
  rw [Int.toNat_natCast, List.getElem?_eq_getElem h]
theorem d_ixL {xs : List PyData} {j : Nat} (h : j < xs.length) : idxD (.list xs) (.int j) = some xs[j] := d_ixT h
theorem iR1_ev {g : Rho → R PyData} {ρ : Rho} {n : Nat} (h : g ρ = .ok (.int n)) (hn : n ≤ 100000) : iR1 g ρ = .ok (rangeL 0 n) := by
  unfold iR1
  rw [h, R.bd_ok]
  unfold range1D
  rw [d_asI, Option.bind_some, if_pos (by unfold inR; omega), Int.toNat_natCast, R.of_some]
end RL

namespace RL
open PySem PySem.Spec PyProof.Rows L2
/-! ### lists of one's own: lent to an expression, appended to, given away -/
section
variable {X : Cx} {pins : List (Addr × Obj)} {σ : L2.St} {H : Hp} {s : Shared} {a : Addr} {vs : List V}
theorem inv_lend (I : Inv X pins σ H s) (ha : H a = some (ownHO a vs)) : Inv X pins σ (upd H a (.lst vs)) s := by
  obtain ⟨⟨hl, its, n, r, e⟩, _, _⟩ := (show ObjOk X.prog X.w H s.heap a (ownHO a vs) from I.hok a _ ha)
  exact I.write (x := a) (e := a) (h' := s.heap) (t' := s.toks) (by rw [ha]; trivial) (.inl rfl) (fun _ _ _ q => q) ⟨_, e⟩ ⟨hl, its, n, r, e⟩
theorem inv_own (I : Inv X pins σ H s) (ha : H a = some (.lst vs)) : Inv X pins σ (upd H a (ownHO a vs)) s := by
  obtain ⟨hl, its, n, r, e⟩ := (show ObjOk X.prog X.w H s.heap a (.lst vs) from I.hok a _ ha)
  exact I.write (x := a) (e := a) (h' := s.heap) (t' := s.toks) (by rw [ha]; trivial) (.inl rfl) (fun _ _ _ q => q) ⟨_, e⟩ ⟨⟨hl, its, n, r, e⟩, ⟨_, e⟩, fun h1 h2 ⟨q1, its', n', q2, q3⟩ st => ⟨q1, its', n', q2, st _ q3⟩⟩
end
theorem EnvP.len {K : PySem.W.Frag} {H : Hp} : ∀ {ρ : Rho} {σ : L2.St}, EnvP K H σ ρ → ρ.length = σ.length
  | _, _, .nil => rfl
  | _, _, .cons _ r => congrArg (· + 1) (EnvP.len r)
theorem EnvP.of_at {K : PySem.W.Frag} {H : Hp} : ∀ {ρ : Rho} {σ : L2.St}, ρ.length = σ.length → (∀ (j : Nat) (x : Sl) (o : Option V), ρ[j]? = some x → σ[j]? = some o → SlotR K H x o) → EnvP K H σ ρ
  | [], [], _, _ => .nil
  | x :: ρ, o :: σ, hl, h => .cons (h 0 x o rfl rfl) (EnvP.of_at (by simpa using hl) fun j y p h1 h2 => h (j + 1) y p (by simpa using h1) (by simpa using h2))
  | [], _ :: _, hl, _ => by simp at hl
  | _ :: _, [], hl, _ => by simp at hl
theorem grow_but {H H' : Hp} {a : Addr} (hx : ∃ φ, H a = some (.ext φ)) (sb : ∀ b, b ≠ a → ∀ o, H b = some o → H' b = some o) : Grow H H' := fun b o q n => by
  by_cases e : b = a
  · subst e
    obtain ⟨φ, hx⟩ := hx
    rw [hx] at q
    exact (n φ (Option.some.inj q).symm).elim
  · exact sb b e o q
/-- one's own thing is seen otherwise -/
theorem env_swap {K : PySem.W.Frag} {H H' : Hp} {σ : L2.St} {ρ : Rho} {i : Nat} {a : Addr} {x y : Sl} (env : EnvR K H σ ρ) (hi : ρ[i]? = some y) (oy : isOwn y = true) (ha : σ[i]? = some (some (.ref a))) (sb : ∀ b, b ≠ a → ∀ o, H b = some o → H' b = some o) (hs : SlotR K H' x (some (.ref a))) : EnvR K H' σ (ρ.set i x) := by
  have g := grow_but (env.p.own hi oy ha) sb
  refine ⟨EnvP.of_at (by rw [List.length_set]; exact env.p.len) fun j z o h1 h2 => ?_, fun j k b z w hz hw oz ow sz sw => ?_⟩
  · rcases set_get h1 with ⟨e1, e2⟩ | ⟨nj, h1'⟩
    · rw [e1, ha] at h2
      cases h2
      rw [e2]
      exact hs
    · obtain ⟨o', e1, r⟩ := env.p.at h1'
      rw [h2] at e1
      cases e1
      have ne : ∀ b, isOwn z = true → o = some (.ref b) → b ≠ a := fun b oz e eb => by
        subst e
        exact nj (env.d j i b z y h1' hi oz oy h2 (by rw [eb]; exact ha))
      cases z with
      | u => trivial
      | d d => obtain ⟨v, q1, q2⟩ := r; exact ⟨v, q1, dp_grow g q2⟩
      | r v => exact r
      | s => obtain ⟨b, q1, q2⟩ := r; exact ⟨b, q1, sb b (ne b rfl q1) _ q2⟩
      | o ds => obtain ⟨b, ws, q1, q2, q3⟩ := r; exact ⟨b, ws, q1, sb b (ne b rfl q1) _ q2, dpAll_grow g q3⟩
  · have key : ∀ {j z}, (ρ.set i x)[j]? = some z → isOwn z = true → ∃ z', ρ[j]? = some z' ∧ isOwn z' = true := fun {j z} h o => by
      rcases set_get h with ⟨e1, _⟩ | ⟨_, h'⟩
      · exact ⟨y, by rw [e1]; exact hi, oy⟩
      · exact ⟨z, h', o⟩
    obtain ⟨z', h1, h2⟩ := key hz oz
    obtain ⟨w', h3, h4⟩ := key hw ow
    exact env.d j k b z' w' h1 h3 h2 h4 sz sw
theorem upd_but {H : Hp} {a : Addr} {u : HO} : ∀ b, b ≠ a → ∀ o, H b = some o → upd H a u b = some o := fun b hb o q => by rw [upd_ne hb]; exact q
theorem dp_flat_swap {K : PySem.W.Frag} {H : Hp} {a : Addr} {φ : Heap → Prop} {u : HO} {vs : List V} {ds : List PyData} (ha : H a = some (.ext φ)) (h : DpAll K H vs ds) : DpAll K (upd H a u) vs ds := dpAll_grow (Grow.upd ha) h
/-- an expression over one's own list -/
def gBor (i : Nat) (g : Rho → R PyData) : Rho → R PyData := fun ρ => match ρ[i]? with
  | some (.o ds) => (g (ρ.set i (.d (.list ds)))).calm.bd fun d => if noL d = true then .ok d else .stuck
  | _ => g ρ
def gBorT (i : Nat) (g : Rho → R Bool) : Rho → R Bool := fun ρ => match ρ[i]? with
  | some (.o ds) => (g (ρ.set i (.d (.list ds)))).calm
  | _ => g ρ
theorem PostG.calm2 {α β γ δ : Type} {mg : Str → Option Value} {W W' : WX} {σ σ' : L2.St} {H H2 : Hp} {rel : Hp → β → α → Prop} {rel2 : Hp → δ → γ → Prop} {Q : β → Hp → Prop} {Q2 : δ → Hp → Prop} {m : R α} {k : α → R γ} (post : PostG mg W σ H rel2 Q2 (m.calm.bd k)) (h : ∀ a v H1, Same H2 H1 → rel H1 v a → PostG mg W σ H rel2 Q2 (k a) → Q v H1) : PostG mg W' σ' H2 rel Q m := by
  induction m with
  | ok a => exact fun v H' s' r => h a v H' s' r post
  | exc n => exact post.elim
  | stuck => exact post.elim
  | ask n k ih => exact fun i hi => ih i (post i hi)
theorem R.bd_id {α : Type} (m : R α) : m.bd .ok = m := by
  induction m with
  | ok a => rfl
  | exc n => rfl
  | stuck => rfl
  | ask n k ih => exact congrArg (R.ask n) (funext ih)
section
variable {X : Cx} {e : Expr} {g : Rho → R PyData} {gt : Rho → R Bool} {pos : Pos}
theorem lent_back {H H2 : Hp} {a : Addr} {vs : List V} (ha : H a = some (ownHO a vs)) (s : Same (upd H a (.lst vs)) H2) : Same H (upd H2 a (ownHO a vs)) := fun b o q => by
  by_cases e : b = a
  · subst e
    rw [upd_same, ← ha]
    exact q
  · rw [upd_ne e]
    exact s b o (by rw [upd_ne e]; exact q)
theorem sem_bor (i : Nat) (he : SemE X e g) : SemE X e (gBor i g) := fun W tk => ⟨fun pins s σ H Q I ⟨ρ, env, post⟩ => by
  have other : (gBor i g ρ = g ρ) → wpAny (model X.prog X.w) X.A (eval e X.env) (EP X pins σ Q) X.xe s := fun z => (he W tk).run pins s σ H Q I ⟨ρ, env, by rw [z] at post; exact post⟩
  unfold gBor at post other
  cases z : ρ[i]? with
  | none => rw [z] at other; exact other rfl
  | some sl =>
    rw [z] at post other
    cases sl with
    | o ds =>
      obtain ⟨a, vs, h1, h2, h3⟩ := env.getO z
      have env1 : EnvR X.K (upd H a (.lst vs)) σ (ρ.set i (.d (.list ds))) := env_swap env z rfl h1 upd_but ⟨.ref a, rfl, .lst (SqL.of upd_same) (dp_flat_swap h2 h3)⟩
      refine thn ((he W0 takes0).run pins s σ _ (fun v H2 => H2 a = some (.lst vs) ∧ Q v (upd H2 a (ownHO a vs))) (inv_lend I h2) ⟨_, env1, PostG.calm2 post fun d v H2 s2 r2 post2 => ?_⟩) fun u s1 ⟨v, H2, I2, r2, q1, q2⟩ => ⟨v, _, inv_own I2 q1, r2, q2⟩
      have hl : H2 a = some (.lst vs) := s2 _ _ upd_same
      split at post2
      · rename_i hn
        exact ⟨hl, post2 v _ (lent_back h2 s2) (dp_imm (Tups.list hl) hn r2)⟩
      · exact post2.elim
    | _ => exact other rfl⟩
theorem sem_borT (i : Nat) (he : SemT X e gt) : SemT X e (gBorT i gt) := fun W tk => ⟨fun pins s σ H Q I ⟨ρ, env, post⟩ => by
  have other : (gBorT i gt ρ = gt ρ) → wpAny (model X.prog X.w) X.A (isTrue e X.env (eval e X.env)) (TP X pins σ Q) X.xe s := fun z => (he W tk).run pins s σ H Q I ⟨ρ, env, by rw [z] at post; exact post⟩
  unfold gBorT at post other
  cases z : ρ[i]? with
  | none => rw [z] at other; exact other rfl
  | some sl =>
    rw [z] at post other
    cases sl with
    | o ds =>
      obtain ⟨a, vs, h1, h2, h3⟩ := env.getO z
      have env1 : EnvR X.K (upd H a (.lst vs)) σ (ρ.set i (.d (.list ds))) := env_swap env z rfl h1 upd_but ⟨.ref a, rfl, .lst (SqL.of upd_same) (dp_flat_swap h2 h3)⟩
      have post : PostG X.mg W σ H rBo Q ((gt (ρ.set i (.d (.list ds)))).calm.bd .ok) := by rw [R.bd_id]; exact post
      refine thn ((he W0 takes0).run pins s σ _ (fun v H2 => H2 a = some (.lst vs) ∧ Q v (upd H2 a (ownHO a vs))) (inv_lend I h2) ⟨_, env1, PostG.calm2 post fun d v H2 s2 r2 post2 => ?_⟩) fun u s1 ⟨H2, I2, q1, q2⟩ => ⟨_, inv_own I2 q1, q2⟩
      exact ⟨s2 _ _ upd_same, post2 v _ (lent_back h2 s2) r2⟩
    | _ => exact other rfl⟩
end

/-! statements over lists of one's own -/
def sNew (i : Nat) (gs : Rho → R (List PyData)) : Rho → O := fun ρ => (gs ρ).to ρ fun ds => if ds.length ≤ sizeLine then .nx (ρ.set i (.o ds)) else .stuck
def sApp (i : Nat) (g : Rho → R PyData) : Rho → O := fun ρ => match ρ[i]? with
  | some (.o ds) => (g (ρ.set i (.d (.list ds)))).calm.to ρ fun d => if noL d = true ∧ ds.length < sizeLine then .nx (ρ.set i (.o (ds ++ [d]))) else .stuck
  | _ => .stuck
def sRel (i : Nat) (s : Rho → O) : Rho → O := fun ρ => match ρ[i]? with
  | some (.o ds) => s (ρ.set i (.d (.list ds)))
  | _ => s ρ
abbrev whileFuel : Nat := 1000000
def whileD (gt : Rho → R Bool) (gb : Rho → O) : Nat → Rho → O
  | 0, _ => .stuck
  | n + 1, ρ => (gt ρ).to ρ fun b => if b = true then (gb ρ).th (whileD gt gb n) else .nx ρ
theorem post_calm {α β : Type} {ρ : Rho} {K : PySem.W.Frag} {mg : Str → Option Value} {W W' : WX} {D : Ends} {σ : L2.St} {H0 Hb H : Hp} {rel : Hp → β → α → Prop} {m : R α} {f : α → O} {Q : β → Hp → Prop} (post : PostS K mg W D H0 Hb (m.calm.to ρ f)) (h : ∀ a v H1, Same H H1 → rel H1 v a → PostS K mg W D H0 Hb (f a) → Q v H1) : PostG mg W' σ H rel Q m := by
  induction m with
  | ok a => exact fun v H' s r => h a v H' s r post
  | exc n => exact post.elim
  | stuck => exact post.elim
  | ask n k ih => exact fun i hi => ih i (post i hi)
section
variable {X : Cx} {e : Expr} {es : List Expr} {g : Rho → R PyData} {gs : Rho → R (List PyData)} {gt : Rho → R Bool} {gb : Rho → O} {st : Stmt} {s : Rho → O} {pos : Pos}
theorem sem_new {i : Nat} {x : Str} {px pos2 : Pos} (hN : X.N.Nodup) (ha : SemA X es gs) (hi : X.N[i]? = some x := by rfl) (hx : Loc X.env.scope x := by first | exact Or.inl rfl | exact Or.inr rfl) (hs : swapsWith (.List es pos2) (some (.Name x px)) pos.line X.env = pure false := by rfl) (hf : X.fn x = true ∨ X.env.scope.names.lookup x = some .local := by first | exact .inl rfl | exact .inr rfl | assumption) :
    SemS X (.Assign [.Name x px] (.List es pos2) pos) (sNew i gs) := fun W tk => ⟨fun pins s σ H D I ⟨H0, Hb, ρ, env, post⟩ => by
  have base := ps_set hN hi hx (pe_lst (ha W tk.tk)) hs hf
  refine thn (base.run pins s σ H { nx := fun σ' H' => ∃ a vs, H' a = some (.lst vs) ∧ D.nx σ' (upd H' a (ownHO a vs)), rt := fun _ _ => False } I ⟨ρ, env.e, post_to env post fun ds vs H1 s1 r1 post1 => ?_⟩) fun f s1 q => ?_
  · split at post1
    · rename_i hl
      refine ⟨by rw [dpAll_length r1]; exact hl, fun p hp => ⟨p, vs, upd_same, ?_⟩⟩
      rw [upd_upd]
      exact post1 _ _ ((env.same s1).new (u := ownHO p vs) (x := .o ds) hp ⟨p, vs, rfl, upd_same, dpAll_same (same_upd hp) r1⟩ i)
    · exact post1.elim
  · cases f with
    | next =>
      obtain ⟨σ', H', I', a, vs, h1, h2⟩ := q
      exact ⟨σ', _, inv_own I' h1, h2⟩
    | brk => obtain ⟨_, _, _, z⟩ := q; exact z.elim
    | cont => obtain ⟨_, _, _, z⟩ := q; exact z.elim
    | ret u => obtain ⟨_, _, _, _, _, z⟩ := q; exact z.elim⟩
theorem sem_app {i : Nat} {x : Str} {px apos cpos : Pos} (he : SemE X e g) (hi : X.N[i]? = some x := by rfl) (hv : Vis X.env.scope x := by first | exact Or.inl rfl | exact Or.inr (Or.inl rfl) | exact Or.inr (Or.inr rfl)) (hd : (x == ("__debug__" : Str)) = false := by decide) (hcd : (x == ("__classdict__" : Str)) = false := by decide)
    (hs1 : starEach [e] X.env = (false, eval e X.env) :: starEach [] X.env := by rfl)
    (hbase : attributeBase (.Name x px) "append" X.env (eval (.Name x px) X.env) = eval (.Name x px) X.env := by rfl)
    (hfew : ((backTo cpos (starEach (e :: []) X.env)).all (fun x => !x.1) && (backToKw cpos (keywordEach [] X.env)).all (fun x => x.1.isSome)
      && decide ((e :: ([] : List Expr)).length + ([] : List Keyword).length + (if ([] : List Keyword).isEmpty then 0 else 1) < 30)) = true := by rfl)
    (hline : (apos.endLine == cpos.line) = true := by rfl) (hplain : (backTo cpos (starEach ([] : List Expr) X.env)).any (·.1) = false := by rfl)
    (hs : swapsWith (.Call (.Attribute (.Name x px) "append" apos) [e] [] cpos) none pos.line X.env = pure false := by rfl) :
    SemS X (.Expr (.Call (.Attribute (.Name x px) "append" apos) [e] [] cpos) pos) (sApp i g) := fun W tk => ⟨fun pins s σ H D I ⟨H0, Hb, ρ, env, post⟩ => by
  unfold sApp at post
  cases z : ρ[i]? with
  | none => rw [z] at post; exact post.elim
  | some sl =>
    rw [z] at post
    cases sl with
    | o ds =>
      obtain ⟨a, vs, h1, h2, h3⟩ := env.e.getO z
      have h0 := env.o i ds a z h1
      have env1 : EnvR X.K (upd H a (.lst vs)) σ (ρ.set i (.d (.list ds))) := env_swap env.e z rfl h1 upd_but ⟨.ref a, rfl, .lst (SqL.of upd_same) (dp_flat_swap h2 h3)⟩
      have base := ps_expr (pe_bm PySem.F.plainAttrs_list PySem.F.slot_list_append PySem.F.type_list_append mt_append (pe_var hi hv hd hcd) (pa_cons (he W0 takes0) pa_nil hs1) hbase hfew hline hs1 hplain) hs
      refine thn (base.run pins s σ _ { nx := fun σ' H' => ∃ vs', H' a = some (.lst vs') ∧ D.nx σ' (upd H' a (ownHO a vs')), rt := fun _ _ => False } (inv_lend I h2) ⟨.ref a, h1, .inl ⟨rfl, vs, SqL.of upd_same⟩, _, env1, post_calm post fun d v H2 s2 r2 post2 => ?_⟩) fun f s1 q => ?_
      · split at post2
        · rename_i hn
          have hl : H2 a = some (.lst vs) := s2 _ _ upd_same
          refine ⟨a, vs, v, rfl, rfl, hl, by rw [dpAll_length h3]; exact hn.2, vs ++ [v], upd_same, ?_⟩
          rw [upd_upd]
          have sb : ∀ b, b ≠ a → ∀ o, H b = some o → upd H2 a (ownHO a (vs ++ [v])) b = some o := fun b hb o q => by
            rw [upd_ne hb]
            exact s2 b o (by rw [upd_ne hb]; exact q)
          have gr := grow_but ⟨_, h2⟩ sb
          refine post2 _ _ ⟨fun b o q => ?_, env.g.trans gr, env_swap env.e z rfl h1 sb ⟨a, vs ++ [v], rfl, upd_same, dpAll_append (dpAll_grow gr h3) (.cons (dp_imm (Tups.list hl) hn.1 r2) .nil)⟩, fun j ds' b q1 q2 => ?_⟩
          · refine sb b ?_ o (env.s b o q)
            rintro rfl
            rw [h0] at q
            cases q
          · rcases set_get q1 with ⟨e1, _⟩ | ⟨_, q1'⟩
            · rw [e1, h1] at q2
              cases q2
              exact h0
            · exact env.o j ds' b q1' q2
        · exact post2.elim
      · cases f with
        | next =>
          obtain ⟨σ', H', I', vs', q1, q2⟩ := q
          exact ⟨σ', _, inv_own I' q1, q2⟩
        | brk => obtain ⟨_, _, _, z⟩ := q; exact z.elim
        | cont => obtain ⟨_, _, _, z⟩ := q; exact z.elim
        | ret u => obtain ⟨_, _, _, _, _, z⟩ := q; exact z.elim
    | _ => exact post.elim⟩
theorem sem_rel (i : Nat) (h : SemS X st s) : SemS X st (sRel i s) := fun W tk => ⟨fun pins sh σ H D I ⟨H0, Hb, ρ, env, post⟩ => by
  have other : (sRel i s ρ = s ρ) → wpAny (model X.prog X.w) X.A (exec st X.env) (SP X pins D) X.xe sh := fun z => (h W tk).run pins sh σ H D I ⟨H0, Hb, ρ, env, by rw [z] at post; exact post⟩
  unfold sRel at post other
  cases z : ρ[i]? with
  | none => rw [z] at other; exact other rfl
  | some sl =>
    rw [z] at post other
    cases sl with
    | o ds =>
      obtain ⟨a, vs, h1, h2, h3⟩ := env.e.getO z
      have h0 := env.o i ds a z h1
      refine (h W tk).run pins sh σ _ D (inv_lend I h2) ⟨H0, Hb, _, ⟨fun b o q => ?_, env.g.trans (Grow.upd h2), env_swap (x := .d (.list ds)) env.e z rfl h1 upd_but ⟨.ref a, rfl, .lst (SqL.of upd_same) (dp_flat_swap h2 h3)⟩, fun j ds' b q1 q2 => ?_⟩, post⟩
      · rw [upd_ne]
        · exact env.s b o q
        · rintro rfl
          rw [h0] at q
          cases q
      · rcases set_get q1 with ⟨_, e1⟩ | ⟨_, q1'⟩
        · cases e1
        · exact env.o j ds' b q1' q2
    | _ => exact other rfl⟩
theorem sem_while {c : Expr} {body : List Stmt} (n : Nat) (hc : SemT X c gt) (hb : SemSs X body gb) : SemS X (.While c body [] pos) (whileD gt gb n) := fun W tk => ps_imp (ps_while tk.po (hc W tk.tk) (hb W tk)) fun D σ H ⟨H0, Hb, ρ, env, post⟩ => by
  refine ⟨fun m σ' H' => ∃ ρ', EnvO X.K H0 Hb H' σ' ρ' ∧ PostS X.K X.mg W D H0 Hb (whileD gt gb m ρ'), ⟨n, ρ, env, post⟩, fun m σ' H' ⟨ρ', env', post'⟩ => ?_⟩
  cases m with
  | zero => exact post'.elim
  | succ m =>
    refine ⟨ρ', env'.e, post_to env' (show PostS X.K X.mg W D H0 Hb ((gt ρ').to ρ' _) from post') fun b v H1 s1 eb post1 => ?_⟩
    subst eb
    cases v with
    | true =>
      rw [if_pos rfl] at post1 ⊢
      exact ⟨fun σ2 H2 => ∃ ρ2, EnvO X.K H0 Hb H2 σ2 ρ2 ∧ PostS X.K X.mg W D H0 Hb (whileD gt gb m ρ2), fun σ2 H2 h => ⟨m, Nat.lt_succ_self m, h⟩, H0, Hb, ρ', env'.same s1, post_th post1 (fun _ _ h => h) fun ρ2 σ2 H2 env2 q2 => ⟨ρ2, env2, q2⟩⟩
    | false =>
      rw [if_neg Bool.false_ne_true] at post1 ⊢
      exact post1 _ _ (env'.same s1)
end
end RL

namespace RL
open PySem PySem.Spec PyProof.Rows L2
/-! ### try, except -/
def O.catch (hs : List (Str × (Rho → O))) : O → O
  | .nx ρ => .nx ρ
  | .rt d => .rt d
  | .exc n ρ => match hs.lookup n with
    | some g => g ρ
    | none => .stuck
  | .stuck => .stuck
  | .ask n k => .ask n fun i => (k i).catch hs
def O.cl : O → O
  | .nx ρ => .nx ρ
  | .rt d => .rt d
  | .exc _ _ => .stuck
  | .stuck => .stuck
  | .ask n k => .ask n fun i => (k i).cl
def sTry (gb : Rho → O) (hs : List (Str × (Rho → O))) : Rho → O := fun ρ => (gb ρ).catch hs
/-- of which class an exception is -/
structure ExmF (K : PySem.W.Frag) (mg : Str → Option Value) (n m : Str) (b : Bool) : Prop where
  ex : ∃ C D, mg n = some (.ref C) ∧ mg m = some (.ref D) ∧ PySem.W.exmOne K (.ref C) (.ref D) = some b
theorem post_cl {K : PySem.W.Frag} {mg : Str → Option Value} {W : WX} {D : Ends} {H0 Hb : Hp} {o : O} (h : PostS K mg W D H0 Hb o.cl) : PostS K mg W0 D H0 Hb o := by
  induction o with
  | nx ρ => exact h
  | rt d => exact h
  | exc n ρ => exact h.elim
  | stuck => exact h
  | ask n k ih => exact fun i hi => ih i (h i hi)
structure SemH (X : Cx) (hds : List ExceptHandler) (hs : List (Str × (Rho → O))) : Prop where
  run : ∀ W, ∃ l, HdsOk X hds l ∧ ∀ D n gh C σ H H0 Hb ρ, hs.lookup n = some gh → X.mg n = some (.ref C) → EnvO X.K H0 Hb H σ ρ → PostS X.K X.mg W D H0 Hb (gh ρ) → wMany X.K W D l (.ref C) none σ H
theorem semh_nil {X : Cx} : SemH X [] [] := ⟨fun W => ⟨[], .nil, fun D n gh C σ H H0 Hb ρ h => by cases h⟩⟩
theorem lookup_keys {β : Type} {n : Str} {g : β} : ∀ {hs : List (Str × β)}, hs.lookup n = some g → n ∈ hs.map (·.1)
  | [], h => by cases h
  | (k, v) :: r, h => by
    rw [List.lookup_cons] at h
    cases y : (n == k) with
    | true =>
      have : n = k := by simpa using y
      subst this
      exact List.mem_cons_self
    | false =>
      rw [y] at h
      exact List.mem_cons_of_mem _ (lookup_keys h)
theorem semh_cons {X : Cx} {x : Str} {np pos' : Pos} {b₀ : Stmt} {suite : List Stmt} {hds : List ExceptHandler} {hs : List (Str × (Rho → O))} {g : Rho → O} (h1 : ExmF X.K X.mg x x true) (h2 : ∀ n ∈ hs.map (·.1), ExmF X.K X.mg n x false) (hb : ∀ (a : Addr) (pn : List (Addr × Obj)), SemSs (X.suite a pn) (b₀ :: suite) g) (hr : SemH X hds hs)
    (hg : Gl X x := by rfl) (hdb : (x == ("__debug__" : Str)) = false := by decide) : SemH X (.ExceptHandler (some (.Name x np)) none (b₀ :: suite) pos' :: hds) ((x, fun ρ => (g ρ).cl) :: hs) := ⟨fun W => by
  obtain ⟨l, ok, run⟩ := hr.run W
  obtain ⟨C0, D0, m1, m2, e⟩ := h1.ex
  rw [m1] at m2
  cases m2
  refine ⟨(.ref C0, fun a cls d => tPS X.K X.mg W0 g) :: l, .cons ⟨hg, hdb, .inl m1⟩ (fun a oe cls d pn hz hv => hb a _ W0 ⟨takes0, fun e s h => h.elim⟩) ok, fun D n gh C σ H H0 Hb ρ hl hm env post => ?_⟩
  rw [List.lookup_cons] at hl
  cases z : (n == x) with
  | true =>
    rw [z] at hl
    have hn : n = x := by simpa using z
    subst hn
    rw [m1] at hm
    cases hm
    cases hl
    exact ⟨true, e, (fun _ a _ => ⟨H0, Hb, ρ, env, post_cl post⟩), fun q => by cases q⟩
  | false =>
    rw [z] at hl
    have hmem := lookup_keys hl
    obtain ⟨C1, D1, q1, q2, q3⟩ := (h2 n hmem).ex
    rw [hm] at q1
    cases q1
    rw [m1] at q2
    cases q2
    exact ⟨false, q3, (fun q => by cases q), fun _ => run D n gh C σ H H0 Hb ρ hl hm env post⟩⟩
theorem post_catch {K : PySem.W.Frag} {mg : Str → Option Value} {W W2 : WX} {D : Ends} {H0 Hb : Hp} {hs : List (Str × (Rho → O))} {o : O} (h : PostS K mg W D H0 Hb (o.catch hs)) (hw : ∀ n gh C σ H ρ, hs.lookup n = some gh → mg n = some (.ref C) → EnvO K H0 Hb H σ ρ → PostS K mg W D H0 Hb (gh ρ) → W2 (.ref C) none σ H) : PostS K mg W2 D H0 Hb o := by
  induction o with
  | nx ρ => exact h
  | rt d => exact h
  | exc n ρ =>
    intro C σ' H' hm env
    have h : PostS K mg W D H0 Hb (match hs.lookup n with | some g => g ρ | none => .stuck) := h
    cases z : hs.lookup n with
    | none => rw [z] at h; exact h.elim
    | some gh => rw [z] at h; exact hw n gh C σ' H' ρ z hm env h
  | stuck => exact h
  | ask n k ih => exact fun i hi => ih i (h i hi)
theorem sem_try {X : Cx} {body : List Stmt} {h₀ : ExceptHandler} {hds : List ExceptHandler} {hs : List (Str × (Rho → O))} {gb : Rho → O} {pos : Pos} (hb : ∀ (pn : List (Addr × Obj)) (xe : Value → Shared → Prop), SemSs (X.tr pn xe) body gb) (hh : SemH X (h₀ :: hds) hs) (hst : X.stack = X.env :: X.outer := by rfl) (hf : X.env.frame = some X.env.locals := by rfl) :
    SemS X (.Try body (h₀ :: hds) [] [] pos) (sTry gb hs) := fun W tk => by
  obtain ⟨l, ok, run⟩ := hh.run W
  exact ps_imp (ps_try_many (tb := fun W2 => tPS X.K X.mg W2 gb) hst hf tk.tk (fun W2 pn xe t p => hb pn xe W2 ⟨t, p⟩) ok) fun D σ H ⟨H0, Hb, ρ, env, post⟩ => ⟨H0, Hb, ρ, env, post_catch post fun n gh C σ' H' ρ' q1 q2 q3 q4 => run D n gh C σ' H' H0 Hb ρ' q1 q2 q3 q4⟩
theorem exml_nil {K : PySem.W.Frag} {mg : Str → Option Value} {x : Str} : ∀ n ∈ ([] : List Str), ExmF K mg n x false := fun _ h => nomatch h
theorem exml_cons {K : PySem.W.Frag} {mg : Str → Option Value} {x m : Str} {ns : List Str} (h : ExmF K mg m x false) (r : ∀ n ∈ ns, ExmF K mg n x false) : ∀ n ∈ m :: ns, ExmF K mg n x false := fun n hn => by
  rcases List.mem_cons.mp hn with rfl | hn
  · exact h
  · exact r n hn
theorem exmF_ok {K : PySem.W.Frag} {h : Heap} {mg : Str → Option Value} (X : K.In h) (G : h.Ns mainGlobals mg) {x y : Str} {b : Bool} (c1 : (He.Fa.glo x).ok K = true) (c2 : (He.Fa.glo y).ok K = true) (c3 : (He.Fa.exm x y b).ok K = true) : ExmF K mg x y b :=
  ⟨_, _, He.glo_ok X G c1, He.glo_ok X G c2, He.exm_ok c3⟩
/-- x, y = (e, []): y a list of one's own -/
def sParNew (i j : Nat) (g : Rho → R PyData) : Rho → O := fun ρ => (g ρ).to ρ fun d => .nx ((ρ.set i (.d d)).set j (.o []))
theorem sem_parNew {X : Cx} {a : Expr} {g : Rho → R PyData} {i j : Nat} {x y : Str} {px py pt pt2 pl pos : Pos} {kt k2 : Nat} (hN : X.N.Nodup) (ha : SemE X a g) (hi : X.N[i]? = some x := by rfl) (hj : X.N[j]? = some y := by rfl) (hij : i ≠ j := by decide)
    (hx : X.env.scope.names.lookup x = some .local := by rfl) (hy : X.env.scope.names.lookup y = some .local := by rfl) (hc : X.calm = true := by rfl)
    (hs1 : starEach [a, .List [] pl] X.env = (false, eval a X.env) :: starEach [.List [] pl] X.env := by rfl) (hs2 : starEach [.List [] pl] X.env = (false, eval (.List [] pl) X.env) :: starEach [] X.env := by rfl)
    (hw : swappedStores [.Tuple [.Name x px, .Name y py] kt pt] (.Tuple [a, .List [] pl] k2 pt2) X.env = pure (some [x, y]) := by rfl)
    (hs : swapsWithSole [.Tuple [.Name x px, .Name y py] kt pt] (.Tuple [a, .List [] pl] k2 pt2) pos.line X.env = pure false := by rfl) :
    SemS X (.Assign [.Tuple [.Name x px, .Name y py] kt pt] (.Tuple [a, .List [] pl] k2 pt2) pos) (sParNew i j g) := fun W tk => ⟨fun pins s σ H D I ⟨H0, Hb, ρ, env, post⟩ => by
  have base := ps_par hc hN hi hj hij hx hy (pa_cons (ha W tk.tk) (pa_cons (pe_lst pa_nil) pa_nil hs2) hs1) hw hs
  refine thn (base.run pins s σ H { nx := fun σ' H' => ∃ a vs, H' a = some (.lst vs) ∧ D.nx σ' (upd H' a (ownHO a vs)), rt := fun _ _ => False } I ⟨ρ, env.e, post_to env post fun d v H1 s1 r1 post1 => ⟨Nat.zero_le _, fun p hp => ⟨v, .ref p, rfl, p, [], upd_same, ?_⟩⟩⟩) fun f s1 q => ?_
  · rw [upd_upd]
    exact post1 _ _ (((env.same s1).setD i r1).new (u := ownHO p []) (x := .o []) hp ⟨p, [], rfl, upd_same, .nil⟩ j)
  · cases f with
    | next =>
      obtain ⟨σ', H', I', a, vs, h1, h2⟩ := q
      exact ⟨σ', _, inv_own I' h1, h2⟩
    | brk => obtain ⟨_, _, _, z⟩ := q; exact z.elim
    | cont => obtain ⟨_, _, _, z⟩ := q; exact z.elim
    | ret u => obtain ⟨_, _, _, _, _, z⟩ := q; exact z.elim⟩
end RL

namespace RL
open PySem PySem.Spec PyProof.Rows L2
def v_FIRST : PyData := (.tuple [(.int (-1)), (.int 0), (.int 0), (.int 0), (.tuple []), (.int 0), (.tuple [])])
def v_NOBODY : PyData := (.int (-1))
def v_ENDLESS : PyData := (.int 3)
def v_MOST_LEFT : PyData := (.int 9)
def v_MOST_DEEDS : PyData := (.int 60)
def v_VALUES : PyData := (.tuple [(.tuple [(.int 1), (.int 2), (.int 3)]), (.tuple [(.int 0), (.int 1), (.int 2), (.int 3)]), (.tuple [(.str "due"), (.str "today")]), (.tuple [(.bool false), (.bool true)]), (.tuple [(.int 0), (.int 1), (.int 2)]), (.tuple [(.str "asked"), (.str "open")]), (.tuple [(.int 1), (.int 2)]), (.tuple [(.str "end"), (.str "out")]), (.tuple [(.bool false), (.bool true)])])
abbrev N_is_from : List Str := ["value", "low", "high"]
def g_is_from : Rho → O := (sRet (gAndV (gIsi .int (getV 0)) (gAndV (gNot (gIsi .bool (getV 0))) (asV (gChain .LtE .LtE (getV 1) (getV 0) (getV 2))))))
def m_is_from : List PyData → R PyData := runD N_is_from g_is_from
abbrev N_is_tuple : List Str := ["value", "low", "high"]
def g_is_tuple : Rho → O := (sRet (gAndV (gIsi .tuple (getV 0)) (asV (gChain .LtE .LtE (getV 1) (gBlt lenD (gCons (getV 0) gNil)) (getV 2)))))
def m_is_tuple : List PyData → R PyData := runD N_is_tuple g_is_tuple
abbrev N_is_part : List Str := ["place", "value", "one"]
def g_is_part : Rho → O := (sSeq (sFor (.one 2) (iSeq (gIx (gK v_VALUES) (getV 0))) (sIf (gAnd (gCmp .Eq (gIsi .bool (getV 2)) (gIsi .bool (getV 1))) (gCmp .Eq (gIsi .str (getV 2)) (gIsi .str (getV 1)))) (sIf (gAnd (gTest (gIsiT [.bool, .int, .str] (getV 1))) (gCmp .Eq (getV 2) (getV 1))) (sRet (gK (.bool true))) sNil) sNil)) (sRet (gK (.bool false))))
def m_is_part : List PyData → R PyData := runD N_is_part g_is_part
abbrev N_is_rule : List Str := ["value", "place", "part"]
def g_is_rule : Rho → O := (sRet (gAndV (gCall 3 (gCons (getV 0) (gCons (gK (.int 9)) (gCons (gK (.int 9)) gNil))) m_is_tuple) (gBlt allD (gCons (gLc (.many [1, 2]) [1, 2] (iEn (getV 0)) gYes (gCall 2 (gCons (getV 1) (gCons (getV 2) gNil)) m_is_part)) gNil))))
def m_is_rule : List PyData → R PyData := runD N_is_rule g_is_rule
abbrev N_need_rule : List Str := ["value"]
def g_need_rule : Rho → O := (sIf (gNotT (gTest (gCall 1 (gCons (getV 0) gNil) m_is_rule))) (sExc "InvalidRule") sNil)
def m_need_rule : List PyData → R PyData := runD N_need_rule g_need_rule
abbrev N_need_both : List Str := ["rule", "readers"]
def g_need_both : Rho → O := (sSeq (sExpr (gCall 1 (gCons (getV 0) gNil) m_need_rule)) (sIf (gNotT (gTest (gCall 3 (gCons (getV 1) (gCons (gK (.int 2)) (gCons (gK (.int 3)) gNil))) m_is_from))) (sExc "InvalidReaders") sNil))
def m_need_both : List PyData → R PyData := runD N_need_both g_need_both
abbrev N_can_take : List Str := ["rule", "stand", "reader", "holder", "left", "used", "first", "queue", "fetch", "resting"]
def g_can_take : Rho → O := (sSeq (sAsg (.many [3, 4, 5, 6, 7, 8, 9]) (getV 1)) (sSeq (sIf (gOr (gCmp .NotEq (getV 3) (gK v_NOBODY)) (gCmp .In (getV 2) (getV 9))) (sRet (gK (.bool false))) sNil) (sRet (gOrV (asV (gCmp .Eq (gIx (getV 0) (gK (.int 5))) (gK (.str "open")))) (gOrV (asV (gCmp .Eq (getV 7) (gTup gNil))) (asV (gCmp .Eq (gIx (getV 7) (gK (.int 0))) (getV 2))))))))
def m_can_take : List PyData → R PyData := runD N_can_take g_can_take
abbrev N_renewed_left : List Str := ["rule", "left"]
def g_renewed_left : Rho → O := (sRet (gBin .Add (gIx (getV 0) (gK (.int 0))) (gIf (gCmp .Eq (gIx (getV 0) (gK (.int 2))) (gK (.str "due"))) (getV 1) (gK (.int 0)))))
def m_renewed_left : List PyData → R PyData := runD N_renewed_left g_renewed_left
abbrev N_can_renew : List Str := ["rule", "stand", "holder", "left", "used", "first", "queue", "fetch", "resting"]
def g_can_renew : Rho → O := (sSeq (sAsg (.many [2, 3, 4, 5, 6, 7, 8]) (getV 1)) (sSeq (sIf (gOr (gCmp .Eq (getV 2) (gK v_NOBODY)) (gOr (gCmp .Lt (getV 3) (gK (.int 0))) (gAnd (gCmp .GtE (getV 4) (gIx (getV 0) (gK (.int 1)))) (gCmp .NotEq (gIx (getV 0) (gK (.int 1))) (gK v_ENDLESS))))) (sRet (gK (.bool false))) sNil) (sRet (gAndV (gOrV (asV (gCmp .Eq (getV 6) (gTup gNil))) (gNot (gIx (getV 0) (gK (.int 3))))) (asV (gCmp .LtE (gCall 2 (gCons (getV 0) (gCons (getV 3) gNil)) m_renewed_left) (gK v_MOST_LEFT)))))))
def m_can_renew : List PyData → R PyData := runD N_can_renew g_can_renew
abbrev N_deeds_at : List Str := ["rule", "readers", "stand", "holder", "queue", "people", "found", "reader"]
def g_deeds_at : Rho → O := (sSeq (sAsg (.many [3, 4]) (gTup (gCons (gIx (getV 2) (gK (.int 0))) (gCons (gIx (getV 2) (gK (.int 4))) gNil)))) (sSeq (sSet 5 (gListR (getV 1))) (sSeq (sSet 6 (gLc (.one 7) [7] (iSeq (getV 5)) (gAnd (gCmp .NotEq (getV 7) (getV 3)) (gCmp .NotIn (getV 7) (getV 4))) (gTup (gCons (gK (.str "ask")) (gCons (getV 7) gNil))))) (sSeq (sSet 6 (gBin .Add (gBin .Add (getV 6) (gIf (gCmp .NotEq (getV 3) (gK v_NOBODY)) (gLst (gCons (gTup (gCons (gK (.str "back")) gNil)) gNil)) (gLst gNil))) (gLst (gCons (gTup (gCons (gK (.str "day")) gNil)) gNil)))) (sSeq (sSet 6 (gBin .Add (getV 6) (gLc (.one 7) [7] (iSeq (getV 5)) (gCmp .In (getV 7) (getV 4)) (gTup (gCons (gK (.str "drop")) (gCons (getV 7) gNil)))))) (sSeq (sSet 6 (gBin .Add (getV 6) (gIf (gTest (gCall 2 (gCons (getV 0) (gCons (getV 2) gNil)) m_can_renew)) (gLst (gCons (gTup (gCons (gK (.str "renew")) gNil)) gNil)) (gLst gNil)))) (sRet (gBin .Add (getV 6) (gLc (.one 7) [7] (iSeq (getV 5)) (gTest (gCall 3 (gCons (getV 0) (gCons (getV 2) (gCons (getV 7) gNil))) m_can_take)) (gTup (gCons (gK (.str "take")) (gCons (getV 7) gNil))))))))))))
def m_deeds_at : List PyData → R PyData := runD N_deeds_at g_deeds_at
abbrev N_called : List Str := ["rule", "left", "queue"]
def g_called : Rho → O := (sRet (gIf (gAnd (gCmp .NotEq (getV 2) (gTup gNil)) (gCmp .Gt (gIx (getV 0) (gK (.int 4))) (gK (.int 0)))) (gBlt (ints2 minI) (gCons (getV 1) (gCons (gIx (getV 0) (gK (.int 4))) gNil))) (getV 1)))
def m_called : List PyData → R PyData := runD N_called g_called
abbrev N_fetch_days : List Str := ["rule", "holder", "queue"]
def g_fetch_days : Rho → O := (sRet (gIf (gAnd (gCmp .Eq (getV 1) (gK v_NOBODY)) (gCmp .NotEq (getV 2) (gTup gNil))) (gIx (getV 0) (gK (.int 6))) (gK (.int 0))))
def m_fetch_days : List PyData → R PyData := runD N_fetch_days g_fetch_days
abbrev N_night : List Str := ["rule", "stand", "holder", "left", "used", "first", "queue", "fetch", "resting"]
def g_night : Rho → O := (sSeq (sAsg (.many [2, 3, 4, 5, 6, 7, 8]) (getV 1)) (sSeq (sIf (gCmp .NotEq (getV 2) (gK v_NOBODY)) (sRet (gTup (gCons (getV 2) (gCons (gBlt (ints2 maxI) (gCons (gNeg (gK (.int 1))) (gCons (gBin .Sub (getV 3) (gK (.int 1))) gNil))) (gCons (getV 4) (gCons (gBlt (ints2 maxI) (gCons (gK (.int 0)) (gCons (gBin .Sub (getV 5) (gK (.int 1))) gNil))) (gCons (getV 6) (gCons (gK (.int 0)) (gCons (gTup gNil) gNil))))))))) sNil) (sSeq (sIf (gCmp .Eq (getV 7) (gK (.int 1))) (sSeq (sSet 6 (gBin .Add (gSl (getV 6) (gOS (gK (.int 1))) gON) (gIf (gCmp .Eq (gIx (getV 0) (gK (.int 7))) (gK (.str "end"))) (gSl (getV 6) gON (gOS (gK (.int 1)))) (gTup gNil)))) (sRet (gTup (gCons (gK v_NOBODY) (gCons (gK (.int 0)) (gCons (gK (.int 0)) (gCons (gK (.int 0)) (gCons (getV 6) (gCons (gCall 3 (gCons (getV 0) (gCons (gK v_NOBODY) (gCons (getV 6) gNil))) m_fetch_days) (gCons (gTup gNil) gNil)))))))))) sNil) (sRet (gTup (gCons (gK v_NOBODY) (gCons (gK (.int 0)) (gCons (gK (.int 0)) (gCons (gK (.int 0)) (gCons (getV 6) (gCons (gBlt (ints2 maxI) (gCons (gK (.int 0)) (gCons (gBin .Sub (getV 7) (gK (.int 1))) gNil))) (gCons (gTup gNil) gNil))))))))))))
def m_night : List PyData → R PyData := runD N_night g_night
abbrev N_done : List Str := ["rule", "stand", "deed", "holder", "left", "used", "first", "queue", "fetch", "resting", "word", "rest", "reader", "more", "tired"]
def g_done : Rho → O := (sSeq (sAsg (.many [3, 4, 5, 6, 7, 8, 9]) (getV 1)) (sSeq (sSet 10 (gIx (getV 2) (gK (.int 0)))) (sSeq (sIf (gCmp .Eq (getV 10) (gK (.str "day"))) (sRet (gCall 2 (gCons (getV 0) (gCons (getV 1) gNil)) m_night)) sNil) (sSeq (sIf (gCmp .Eq (getV 10) (gK (.str "take"))) (sSeq (sSet 11 (gBlt tupleD (gCons (gLc (.one 12) [12] (iSeq (getV 7)) (gCmp .NotEq (getV 12) (gIx (getV 2) (gK (.int 1)))) (getV 12)) gNil))) (sRet (gTup (gCons (gIx (getV 2) (gK (.int 1))) (gCons (gCall 3 (gCons (getV 0) (gCons (gIx (getV 0) (gK (.int 0))) (gCons (getV 11) gNil))) m_called) (gCons (gK (.int 0)) (gCons (gIx (getV 0) (gK (.int 0))) (gCons (getV 11) (gCons (gK (.int 0)) (gCons (getV 9) gNil)))))))))) sNil) (sSeq (sIf (gCmp .Eq (getV 10) (gK (.str "renew"))) (sSeq (sSet 13 (gCall 2 (gCons (getV 0) (gCons (getV 4) gNil)) m_renewed_left)) (sSeq (sSet 5 (gIf (gCmp .NotEq (gIx (getV 0) (gK (.int 1))) (gK v_ENDLESS)) (gBin .Add (getV 5) (gK (.int 1))) (gK (.int 0)))) (sRet (gTup (gCons (getV 3) (gCons (gCall 3 (gCons (getV 0) (gCons (getV 13) (gCons (getV 7) gNil))) m_called) (gCons (getV 5) (gCons (getV 13) (gCons (getV 7) (gCons (gK (.int 0)) (gCons (getV 9) gNil))))))))))) sNil) (sSeq (sIf (gCmp .Eq (getV 10) (gK (.str "back"))) (sSeq (sSet 14 (gIf (gTest (gIx (getV 0) (gK (.int 8)))) (gBlt tupleD (gCons (gBlt sortedD (gCons (gBin .Add (getV 9) (gTup (gCons (getV 3) gNil))) gNil)) gNil)) (gTup gNil))) (sRet (gTup (gCons (gK v_NOBODY) (gCons (gK (.int 0)) (gCons (gK (.int 0)) (gCons (gK (.int 0)) (gCons (getV 7) (gCons (gCall 3 (gCons (getV 0) (gCons (gK v_NOBODY) (gCons (getV 7) gNil))) m_fetch_days) (gCons (getV 14) gNil)))))))))) sNil) (sSeq (sIf (gCmp .Eq (getV 10) (gK (.str "ask"))) (sSeq (sSet 8 (gIf (gAnd (gCmp .Eq (getV 3) (gK v_NOBODY)) (gCmp .Eq (getV 7) (gTup gNil))) (gIx (getV 0) (gK (.int 6))) (getV 8))) (sSeq (sSet 7 (gBin .Add (getV 7) (gTup (gCons (gIx (getV 2) (gK (.int 1))) gNil)))) (sRet (gTup (gCons (getV 3) (gCons (gCall 3 (gCons (getV 0) (gCons (getV 4) (gCons (getV 7) gNil))) m_called) (gCons (getV 5) (gCons (getV 6) (gCons (getV 7) (gCons (getV 8) (gCons (getV 9) gNil))))))))))) sNil) (sSeq (sSet 11 (gBlt tupleD (gCons (gLc (.one 12) [12] (iSeq (getV 7)) (gCmp .NotEq (getV 12) (gIx (getV 2) (gK (.int 1)))) (getV 12)) gNil))) (sSeq (sIf (gCmp .Eq (gIx (getV 7) (gK (.int 0))) (gIx (getV 2) (gK (.int 1)))) (sSet 8 (gCall 3 (gCons (getV 0) (gCons (getV 3) (gCons (getV 11) gNil))) m_fetch_days)) sNil) (sRet (gTup (gCons (getV 3) (gCons (getV 4) (gCons (getV 5) (gCons (getV 6) (gCons (getV 11) (gCons (getV 8) (gCons (getV 9) gNil))))))))))))))))))
def m_done : List PyData → R PyData := runD N_done g_done
abbrev N_is_late : List Str := ["stand"]
def g_is_late : Rho → O := (sRet (gAndV (asV (gCmp .NotEq (gIx (getV 0) (gK (.int 0))) (gK v_NOBODY))) (asV (gCmp .LtE (gIx (getV 0) (gK (.int 1))) (gK (.int 0))))))
def m_is_late : List PyData → R PyData := runD N_is_late g_is_late
abbrev N_is_deed : List Str := ["rule", "readers", "stand", "value"]
def g_is_deed : Rho → O := (sSeq (sIf (gOr (gNotT (gTest (gCall 3 (gCons (getV 3) (gCons (gK (.int 1)) (gCons (gK (.int 2)) gNil))) m_is_tuple))) (gNotT (gTest (gIsi .str (gIx (getV 3) (gK (.int 0))))))) (sRet (gK (.bool false))) sNil) (sSeq (sIf (gAnd (gCmp .Eq (gBlt lenD (gCons (getV 3) gNil)) (gK (.int 2))) (gNotT (gTest (gCall 3 (gCons (gIx (getV 3) (gK (.int 1))) (gCons (gK (.int 0)) (gCons (gBin .Sub (getV 1) (gK (.int 1))) gNil))) m_is_from)))) (sRet (gK (.bool false))) sNil) (sRet (asV (gCmp .In (getV 3) (gCall 3 (gCons (getV 0) (gCons (getV 1) (gCons (getV 2) gNil))) m_deeds_at))))))
def m_is_deed : List PyData → R PyData := runD N_is_deed g_is_deed
abbrev N_led : List Str := ["rule", "readers", "row", "stands", "deed"]
def g_led : Rho → O := (sSeq (sNew 3 (gCons (gK v_FIRST) gNil)) (sSeq (sFor (.one 4) (iSeq (getV 2)) (sSeq (sIf (gBorT 3 (gNotT (gTest (gCall 4 (gCons (getV 0) (gCons (getV 1) (gCons (gIx (getV 3) (gNeg (gK (.int 1)))) (gCons (getV 4) gNil)))) m_is_deed)))) (sRet (gK .none)) sNil) (sApp 3 (gCall 3 (gCons (getV 0) (gCons (gIx (getV 3) (gNeg (gK (.int 1)))) (gCons (getV 4) gNil))) m_done)))) (sRel 3 (sRet (getV 3)))))
def m_led : List PyData → R PyData := runD N_led g_led
abbrev N_has_row : List Str := ["rule", "readers", "value"]
def g_has_row : Rho → O := (sRet (gAndV (gCall 3 (gCons (getV 2) (gCons (gK (.int 0)) (gCons (gK v_MOST_DEEDS) gNil))) m_is_tuple) (gNotN (gCall 3 (gCons (getV 0) (gCons (getV 1) (gCons (getV 2) gNil))) m_led))))
def m_has_row : List PyData → R PyData := runD N_has_row g_has_row
abbrev N_need_row : List Str := ["rule", "readers", "value"]
def g_need_row : Rho → O := (sIf (gNotT (gTest (gCall 3 (gCons (getV 0) (gCons (getV 1) (gCons (getV 2) gNil))) m_has_row))) (sExc "InvalidRow") sNil)
def m_need_row : List PyData → R PyData := runD N_need_row g_need_row
abbrev N_is_row : List Str := ["rule", "readers", "value"]
def g_is_row : Rho → O := (sSeq (sExpr (gCall 2 (gCons (getV 0) (gCons (getV 1) gNil)) m_need_both)) (sRet (gCall 3 (gCons (getV 0) (gCons (getV 1) (gCons (getV 2) gNil))) m_has_row)))
def m_is_row : List PyData → R PyData := runD N_is_row g_is_row
abbrev N_stand_behind : List Str := ["rule", "readers", "row"]
def g_stand_behind : Rho → O := (sSeq (sExpr (gCall 2 (gCons (getV 0) (gCons (getV 1) gNil)) m_need_both)) (sSeq (sExpr (gCall 3 (gCons (getV 0) (gCons (getV 1) (gCons (getV 2) gNil))) m_need_row)) (sRet (gIx (gCall 3 (gCons (getV 0) (gCons (getV 1) (gCons (getV 2) gNil))) m_led) (gNeg (gK (.int 1)))))))
def m_stand_behind : List PyData → R PyData := runD N_stand_behind g_stand_behind
abbrev N_late_days : List Str := ["rule", "readers", "row", "stands", "at", "deed"]
def g_late_days : Rho → O := (sSeq (sExpr (gCall 2 (gCons (getV 0) (gCons (getV 1) gNil)) m_need_both)) (sSeq (sExpr (gCall 3 (gCons (getV 0) (gCons (getV 1) (gCons (getV 2) gNil))) m_need_row)) (sSeq (sSet 3 (gCall 3 (gCons (getV 0) (gCons (getV 1) (gCons (getV 2) gNil))) m_led)) (sRet (gLc (.many [4, 5]) [4, 5] (iEn (getV 2)) (gAnd (gCmp .Eq (getV 5) (gTup (gCons (gK (.str "day")) gNil))) (gTest (gCall 1 (gCons (gIx (getV 3) (getV 4)) gNil) m_is_late))) (gTup (gCons (getV 4) (gCons (gIx (gIx (getV 3) (getV 4)) (gK (.int 0))) gNil))))))))
def m_late_days : List PyData → R PyData := runD N_late_days g_late_days
abbrev N_law_source : List Str := ["script", "k", "cell"]
abbrev N_law_draw : List Str := ["source", "many", "rest", "wide"]
abbrev m_law_draw := m_draw
abbrev N_law_choice : List Str := ["source", "some"]
def g_law_choice : Rho → O := (sRet (gIx (getV 1) (gCallS 0 1 (gCons (gBlt lenD (gCons (getV 1) gNil)) gNil) m_law_draw)))
def m_law_choice : List PyData → R PyData := runS N_law_choice g_law_choice
abbrev N_law_values : List Str := ["first"]
def g_law_values : Rho → O := (sSeq (sSet 0 (gLst (gCons (gLst (gCons (gK (.int 1)) (gCons (gK (.int 2)) (gCons (gK (.int 3)) gNil)))) (gCons (gLst (gCons (gK (.int 0)) (gCons (gK (.int 1)) (gCons (gK (.int 2)) (gCons (gK (.int 3)) gNil))))) (gCons (gLst (gCons (gK (.str "due")) (gCons (gK (.str "today")) gNil))) (gCons (gLst (gCons (gK (.bool false)) (gCons (gK (.bool true)) gNil))) (gCons (gLst (gCons (gK (.int 0)) (gCons (gK (.int 1)) (gCons (gK (.int 2)) gNil)))) gNil))))))) (sRet (gBin .Add (getV 0) (gLst (gCons (gLst (gCons (gK (.str "asked")) (gCons (gK (.str "open")) gNil))) (gCons (gLst (gCons (gK (.int 1)) (gCons (gK (.int 2)) gNil))) (gCons (gLst (gCons (gK (.str "end")) (gCons (gK (.str "out")) gNil))) (gCons (gLst (gCons (gK (.bool false)) (gCons (gK (.bool true)) gNil))) gNil))))))))
def m_law_values : List PyData → R PyData := runD N_law_values g_law_values
abbrev N_law_rule : List Str := ["source", "some"]
def g_law_rule : Rho → O := (sRet (gBlt tupleD (gCons (gLc (.one 1) [1] (iSeq (gCall0 m_law_values)) gYes (gCallS 0 1 (gCons (getV 1) gNil) m_law_choice)) gNil)))
def m_law_rule : List PyData → R PyData := runS N_law_rule g_law_rule
abbrev N_law_taken : List Str := ["rule", "stand", "reader", "holder", "left", "used", "first", "queue", "fetch", "resting", "rest", "one", "short"]
def g_law_taken : Rho → O := (sSeq (sAsg (.many [3, 4, 5, 6, 7, 8, 9]) (getV 1)) (sSeq (sIf (gOr (gCmp .GtE (getV 3) (gK (.int 0))) (gOr (gCmp .In (getV 2) (getV 9)) (gAnd (gCmp .Eq (gIx (getV 0) (gK (.int 5))) (gK (.str "asked"))) (gAnd (gCmp .NotEq (getV 7) (gTup gNil)) (gCmp .NotEq (gIx (getV 7) (gK (.int 0))) (getV 2)))))) (sRet (gK .none)) sNil) (sSeq (sSet 10 (gBlt tupleD (gCons (gLc (.one 11) [11] (iSeq (getV 7)) (gCmp .NotEq (getV 11) (getV 2)) (getV 11)) gNil))) (sSeq (sSet 12 (gAndV (asV (gCmp .NotEq (getV 10) (gTup gNil))) (asV (gChain .Lt .Lt (gK (.int 0)) (gIx (getV 0) (gK (.int 4))) (gIx (getV 0) (gK (.int 0))))))) (sRet (gTup (gCons (getV 2) (gCons (gIf (gTest (getV 12)) (gIx (getV 0) (gK (.int 4))) (gIx (getV 0) (gK (.int 0)))) (gCons (gK (.int 0)) (gCons (gIx (getV 0) (gK (.int 0))) (gCons (getV 10) (gCons (gK (.int 0)) (gCons (getV 9) gNil)))))))))))))
def m_law_taken : List PyData → R PyData := runD N_law_taken g_law_taken
abbrev N_law_renewed : List Str := ["rule", "stand", "holder", "left", "used", "first", "queue", "fetch", "resting", "new", "short"]
def g_law_renewed : Rho → O := (sSeq (sAsg (.many [2, 3, 4, 5, 6, 7, 8]) (getV 1)) (sSeq (sSet 9 (gBin .Add (gIx (getV 0) (gK (.int 0))) (gDsel ["due", "today"] (gCons (getV 3) (gCons (gK (.int 0)) gNil)) (gIx (getV 0) (gK (.int 2)))))) (sSeq (sIf (gOr (gCmp .Lt (getV 2) (gK (.int 0))) (gOr (gCmp .Lt (getV 3) (gK (.int 0))) (gOr (gCmp .Gt (getV 9) (gK (.int 9))) (gOr (gAnd (gCmp .Lt (gIx (getV 0) (gK (.int 1))) (gK (.int 3))) (gCmp .Eq (getV 4) (gIx (getV 0) (gK (.int 1))))) (gAnd (gTest (gIx (getV 0) (gK (.int 3)))) (gCmp .NotEq (getV 6) (gTup gNil))))))) (sRet (gK .none)) sNil) (sSeq (sSet 10 (gAndV (asV (gCmp .NotEq (getV 6) (gTup gNil))) (asV (gChain .Lt .Lt (gK (.int 0)) (gIx (getV 0) (gK (.int 4))) (getV 9))))) (sRet (gTup (gCons (getV 2) (gCons (gIf (gTest (getV 10)) (gIx (getV 0) (gK (.int 4))) (getV 9)) (gCons (gIf (gCmp .Eq (gIx (getV 0) (gK (.int 1))) (gK (.int 3))) (gK (.int 0)) (gBin .Add (getV 4) (gK (.int 1)))) (gCons (getV 9) (gCons (getV 6) (gCons (gK (.int 0)) (gCons (getV 8) gNil)))))))))))))
def m_law_renewed : List PyData → R PyData := runD N_law_renewed g_law_renewed
abbrev N_law_night : List Str := ["rule", "stand", "holder", "left", "used", "first", "queue", "fetch", "resting"]
def g_law_night : Rho → O := (sSeq (sAsg (.many [2, 3, 4, 5, 6, 7, 8]) (getV 1)) (sSeq (sIf (gCmp .GtE (getV 2) (gK (.int 0))) (sRet (gTup (gCons (getV 2) (gCons (gIf (gCmp .Gt (getV 3) (gNeg (gK (.int 1)))) (gBin .Sub (getV 3) (gK (.int 1))) (gNeg (gK (.int 1)))) (gCons (getV 4) (gCons (gIf (gCmp .Gt (getV 5) (gK (.int 0))) (gBin .Sub (getV 5) (gK (.int 1))) (gK (.int 0))) (gCons (getV 6) (gCons (gK (.int 0)) (gCons (gTup gNil) gNil))))))))) sNil) (sSeq (sIf (gAnd (gCmp .NotEq (getV 6) (gTup gNil)) (gCmp .Eq (getV 7) (gK (.int 1)))) (sSeq (sSet 6 (gIf (gCmp .Eq (gIx (getV 0) (gK (.int 7))) (gK (.str "end"))) (gBin .Add (gSl (getV 6) (gOS (gK (.int 1))) gON) (gSl (getV 6) gON (gOS (gK (.int 1))))) (gSl (getV 6) (gOS (gK (.int 1))) gON))) (sSet 7 (gBin .Add (gIx (getV 0) (gK (.int 6))) (gK (.int 1))))) sNil) (sRet (gTup (gCons (gNeg (gK (.int 1))) (gCons (gK (.int 0)) (gCons (gK (.int 0)) (gCons (gK (.int 0)) (gCons (getV 6) (gCons (gIf (gCmp .NotEq (getV 6) (gTup gNil)) (gBin .Sub (getV 7) (gK (.int 1))) (gK (.int 0))) (gCons (gTup gNil) gNil))))))))))))
def m_law_night : List PyData → R PyData := runD N_law_night g_law_night
abbrev N_law_done : List Str := ["rule", "readers", "stand", "deed", "holder", "left", "used", "first", "queue", "fetch", "resting", "tired", "rest", "one"]
def g_law_done : Rho → O := (sSeq (sAsg (.many [4, 5, 6, 7, 8, 9, 10]) (getV 2)) (sSeq (sIf (gCmp .Eq (gIx (getV 3) (gK (.int 0))) (gK (.str "day"))) (sRet (gCall 2 (gCons (getV 0) (gCons (getV 2) gNil)) m_law_night)) sNil) (sSeq (sIf (gCmp .Eq (gIx (getV 3) (gK (.int 0))) (gK (.str "take"))) (sRet (gCall 3 (gCons (getV 0) (gCons (getV 2) (gCons (gIx (getV 3) (gK (.int 1))) gNil))) m_law_taken)) sNil) (sSeq (sIf (gCmp .Eq (gIx (getV 3) (gK (.int 0))) (gK (.str "renew"))) (sRet (gCall 2 (gCons (getV 0) (gCons (getV 2) gNil)) m_law_renewed)) sNil) (sSeq (sIf (gCmp .Eq (gIx (getV 3) (gK (.int 0))) (gK (.str "back"))) (sSeq (sSet 11 (gIf (gTest (gIx (getV 0) (gK (.int 8)))) (gBlt tupleD (gCons (gBlt sortedD (gCons (gBin .Add (getV 10) (gTup (gCons (getV 4) gNil))) gNil)) gNil)) (gTup gNil))) (sRet (gIf (gCmp .GtE (getV 4) (gK (.int 0))) (gTup (gCons (gNeg (gK (.int 1))) (gCons (gK (.int 0)) (gCons (gK (.int 0)) (gCons (gK (.int 0)) (gCons (getV 8) (gCons (gBin .Mult (gIx (getV 0) (gK (.int 6))) (gBlt intD (gCons (asV (gCmp .NotEq (getV 8) (gTup gNil))) gNil))) (gCons (getV 11) gNil)))))))) (gK .none)))) sNil) (sSeq (sIf (gCmp .Eq (gIx (getV 3) (gK (.int 0))) (gK (.str "ask"))) (sSeq (sIf (gOr (gCmp .Eq (gIx (getV 3) (gK (.int 1))) (getV 4)) (gCmp .In (gIx (getV 3) (gK (.int 1))) (getV 8))) (sRet (gK .none)) sNil) (sSeq (sSet 9 (gIf (gAnd (gCmp .Lt (getV 4) (gK (.int 0))) (gCmp .Eq (getV 8) (gTup gNil))) (gIx (getV 0) (gK (.int 6))) (getV 9))) (sSeq (sSet 5 (gIf (gChain .Lt .Lt (gK (.int 0)) (gIx (getV 0) (gK (.int 4))) (getV 5)) (gIx (getV 0) (gK (.int 4))) (getV 5))) (sRet (gTup (gCons (getV 4) (gCons (getV 5) (gCons (getV 6) (gCons (getV 7) (gCons (gBin .Add (getV 8) (gTup (gCons (gIx (getV 3) (gK (.int 1))) gNil))) (gCons (getV 9) (gCons (getV 10) gNil)))))))))))) sNil) (sSeq (sIf (gCmp .NotIn (gIx (getV 3) (gK (.int 1))) (getV 8)) (sRet (gK .none)) sNil) (sSeq (sSet 12 (gBlt tupleD (gCons (gLc (.one 13) [13] (iSeq (getV 8)) (gCmp .NotEq (getV 13) (gIx (getV 3) (gK (.int 1)))) (getV 13)) gNil))) (sSeq (sIf (gAnd (gCmp .Eq (gIx (getV 8) (gK (.int 0))) (gIx (getV 3) (gK (.int 1)))) (gCmp .Lt (getV 4) (gK (.int 0)))) (sSet 9 (gBin .Mult (gIx (getV 0) (gK (.int 6))) (gBlt intD (gCons (asV (gCmp .NotEq (getV 12) (gTup gNil))) gNil)))) sNil) (sRet (gTup (gCons (getV 4) (gCons (getV 5) (gCons (getV 6) (gCons (getV 7) (gCons (getV 12) (gCons (getV 9) (gCons (getV 10) gNil))))))))))))))))))
def m_law_done : List PyData → R PyData := runD N_law_done g_law_done
abbrev N_law_deeds : List Str := ["readers", "found", "word", "reader"]
def g_law_deeds : Rho → O := (sSeq (sSet 1 (gLst (gCons (gTup (gCons (gK (.str "back")) gNil)) (gCons (gTup (gCons (gK (.str "day")) gNil)) (gCons (gTup (gCons (gK (.str "renew")) gNil)) gNil))))) (sSeq (sFor (.one 2) (iSeq (gLst (gCons (gK (.str "ask")) (gCons (gK (.str "drop")) (gCons (gK (.str "take")) gNil))))) (sSet 1 (gBin .Add (getV 1) (gLc (.one 3) [3] (iR1 (getV 0)) gYes (gTup (gCons (getV 2) (gCons (getV 3) gNil))))))) (sRet (gBlt sortedD (gCons (getV 1) gNil)))))
def m_law_deeds : List PyData → R PyData := runD N_law_deeds g_law_deeds
abbrev N_law_begun : List Str := []
def g_law_begun : Rho → O := (sRet (gTup (gCons (gNeg (gK (.int 1))) (gCons (gK (.int 0)) (gCons (gK (.int 0)) (gCons (gK (.int 0)) (gCons (gTup gNil) (gCons (gK (.int 0)) (gCons (gTup gNil) gNil)))))))))
def m_law_begun : List PyData → R PyData := runD N_law_begun g_law_begun
abbrev N_law_is_late : List Str := ["stand"]
def g_law_is_late : Rho → O := (sRet (gAndV (asV (gCmp .GtE (gIx (getV 0) (gK (.int 0))) (gK (.int 0)))) (asV (gCmp .Lt (gIx (getV 0) (gK (.int 1))) (gK (.int 1))))))
def m_law_is_late : List PyData → R PyData := runD N_law_is_late g_law_is_late
abbrev N_law_led : List Str := ["rule", "readers", "row", "stands", "deed", "there"]
def g_law_led : Rho → O := (sSeq (sNew 3 (gCons (gCall0 m_law_begun) gNil)) (sSeq (sFor (.one 4) (iSeq (getV 2)) (sSeq (sSet 5 (gBor 3 (gCall 4 (gCons (getV 0) (gCons (getV 1) (gCons (gIx (getV 3) (gNeg (gK (.int 1)))) (gCons (getV 4) gNil)))) m_law_done))) (sSeq (sApp 3 (getV 5)) (sIf (gTest (gIsN (getV 5))) (sRel 3 (sRet (getV 3))) sNil)))) (sRel 3 (sRet (getV 3)))))
def m_law_led : List PyData → R PyData := runD N_law_led g_law_led
abbrev N_law_row : List Str := ["source", "rule", "readers", "most", "stand", "row", "turn", "deed", "there"]
def g_law_row : Rho → O := (sSeq (sPar [4, 5] (gCons (gCall0 m_law_begun) (gCons (gTup gNil) gNil))) (sSeq (sFor (.one 6) (iR1 (gCallS 0 1 (gCons (gBin .Add (getV 3) (gK (.int 1))) gNil) m_law_draw)) (sSeq (sSet 7 (gCallS 0 1 (gCons (gBin .Add (gCall 1 (gCons (getV 2) gNil) m_law_deeds) (gLst (gCons (gTup (gCons (gK (.str "day")) gNil)) (gCons (gTup (gCons (gK (.str "day")) gNil)) (gCons (gTup (gCons (gK (.str "take")) (gCons (gK (.int 0)) gNil))) gNil))))) gNil) m_law_choice)) (sSeq (sSet 8 (gCall 4 (gCons (getV 1) (gCons (getV 2) (gCons (getV 4) (gCons (getV 7) gNil)))) m_law_done)) (sIf (gTest (gNotN (getV 8))) (sPar [4, 5] (gCons (getV 8) (gCons (gBin .Add (getV 5) (gTup (gCons (getV 7) gNil))) gNil))) sNil)))) (sRet (getV 5))))
def m_law_row : List PyData → R PyData := runS N_law_row g_law_row
abbrev N_possible : List Str := ["rule", "readers", "row"]
def g_possible : Rho → O := (sSeq (sExpr (gCall 2 (gCons (getV 0) (gCons (getV 1) gNil)) m_need_both)) (sSeq (sExpr (gCall 3 (gCons (getV 0) (gCons (getV 1) (gCons (getV 2) gNil))) m_need_row)) (sRet (gCall 3 (gCons (getV 0) (gCons (getV 1) (gCons (gIx (gCall 3 (gCons (getV 0) (gCons (getV 1) (gCons (getV 2) gNil))) m_led) (gNeg (gK (.int 1)))) gNil))) m_deeds_at))))
def m_possible : List PyData → R PyData := runD N_possible g_possible
abbrev N_after : List Str := ["rule", "readers", "row", "deed", "stand"]
def g_after : Rho → O := (sSeq (sExpr (gCall 2 (gCons (getV 0) (gCons (getV 1) gNil)) m_need_both)) (sSeq (sExpr (gCall 3 (gCons (getV 0) (gCons (getV 1) (gCons (getV 2) gNil))) m_need_row)) (sSeq (sSet 4 (gIx (gCall 3 (gCons (getV 0) (gCons (getV 1) (gCons (getV 2) gNil))) m_led) (gNeg (gK (.int 1))))) (sSeq (sIf (gNotT (gTest (gCall 4 (gCons (getV 0) (gCons (getV 1) (gCons (getV 4) (gCons (getV 3) gNil)))) m_is_deed))) (sExc "InvalidDeed") sNil) (sRet (gCall 3 (gCons (getV 0) (gCons (getV 4) (gCons (getV 3) gNil))) m_done))))))
def m_after : List PyData → R PyData := runD N_after g_after
end RL

namespace RL
open PySem PySem.Spec PyProof.Rows L2
/-! ### rules, stands, deeds as plain things -/
structure Ru where
  a : Int
  b : Int
  due : Bool
  bar : Bool
  c : Int
  asked : Bool
  f : Int
  fin : Bool
  rest : Bool
structure Ru.Ok (U : Ru) : Prop where
  a1 : 1 ≤ U.a
  a2 : U.a ≤ 3
  b1 : 0 ≤ U.b
  b2 : U.b ≤ 3
  c1 : 0 ≤ U.c
  c2 : U.c ≤ 2
  f1 : 1 ≤ U.f
  f2 : U.f ≤ 2
def sDue (b : Bool) : Str := if b then "due" else "today"
def sAsk (b : Bool) : Str := if b then "asked" else "open"
def sFin (b : Bool) : Str := if b then "end" else "out"
def Ru.d (U : Ru) : PyData := .tuple [.int U.a, .int U.b, .str (sDue U.due), .bool U.bar, .int U.c, .str (sAsk U.asked), .int U.f, .str (sFin U.fin), .bool U.rest]
def iT (l : List Int) : PyData := .tuple (l.map .int)
structure Sd where
  h : Int
  l : Int
  u : Int
  g : Int
  q : List Int
  t : Int
  r : List Int
def Sd.d (S : Sd) : PyData := .tuple [.int S.h, .int S.l, .int S.u, .int S.g, iT S.q, .int S.t, iT S.r]
@[simp] theorem R0 {U : Ru} : idxD U.d (.int 0) = some (.int U.a) := rfl
@[simp] theorem R1 {U : Ru} : idxD U.d (.int 1) = some (.int U.b) := rfl
@[simp] theorem R2 {U : Ru} : idxD U.d (.int 2) = some (.str (sDue U.due)) := rfl
@[simp] theorem R3 {U : Ru} : idxD U.d (.int 3) = some (.bool U.bar) := rfl
@[simp] theorem R4 {U : Ru} : idxD U.d (.int 4) = some (.int U.c) := rfl
@[simp] theorem R5 {U : Ru} : idxD U.d (.int 5) = some (.str (sAsk U.asked)) := rfl
@[simp] theorem R6 {U : Ru} : idxD U.d (.int 6) = some (.int U.f) := rfl
@[simp] theorem R7 {U : Ru} : idxD U.d (.int 7) = some (.str (sFin U.fin)) := rfl
@[simp] theorem R8 {U : Ru} : idxD U.d (.int 8) = some (.bool U.rest) := rfl
@[simp] theorem S0 {S : Sd} : idxD S.d (.int 0) = some (.int S.h) := rfl
@[simp] theorem S1 {S : Sd} : idxD S.d (.int 1) = some (.int S.l) := rfl
@[simp] theorem S4 {S : Sd} : idxD S.d (.int 4) = some (iT S.q) := rfl
theorem S_vals {S : Sd} {is : List Nat} (h : is.length = 7) : (Tg.many is).vals S.d = some [.int S.h, .int S.l, .int S.u, .int S.g, iT S.q, .int S.t, iT S.r] := by
  show (if 7 = is.length then _ else _) = _
  rw [if_pos h.symm]
@[simp] theorem eqDue {b : Bool} : eqD (.str (sDue b)) (.str "due") = some b := by cases b <;> kernel_rfl
@[simp] theorem eqOpen {b : Bool} : eqD (.str (sAsk b)) (.str "open") = some (!b) := by cases b <;> kernel_rfl
@[simp] theorem eqAsked {b : Bool} : eqD (.str (sAsk b)) (.str "asked") = some b := by cases b <;> kernel_rfl
@[simp] theorem eqEnd {b : Bool} : eqD (.str (sFin b)) (.str "end") = some b := by cases b <;> kernel_rfl
theorem isS_ints (l : List Int) : isS (iT l) = true := isS_of (n := 1) (List.all_eq_true.mpr fun x hx => by
  obtain ⟨i, _, rfl⟩ := List.mem_map.mp hx
  rfl)
@[simp] theorem eq_ints {l : List Int} : eqD (iT l) (.tuple []) = some (decide (l = [])) := by
  rw [eq_of (isS_ints l) isS_nilT]
  cases l with
  | nil => rfl
  | cons a r => simp [iT, PyData.eqv, PyData.eqvAll]
@[simp] theorem ne_ints {l : List Int} : neD (iT l) (.tuple []) = some (!decide (l = [])) := by
  rw [ne_of' (isS_ints l) isS_nilT]
  cases l with
  | nil => rfl
  | cons a r => simp [iT, PyData.eqv, PyData.eqvAll]
theorem any_ints {l : List Int} {x : Int} : ((l.map PyData.int).any fun z => PyData.eqv z (.int x)) = decide (x ∈ l) := by
  induction l with
  | nil => rfl
  | cons a r ih =>
    rw [List.map_cons, List.any_cons, ih]
    show (a == x || decide (x ∈ r)) = _
    by_cases e : a = x
    · subst e; simp
    · have e2 : ¬ x = a := fun z => e z.symm
      simp [e, e2]
@[simp] theorem in_ints {l : List Int} {x : Int} : inD (.int x) (iT l) = some (decide (x ∈ l)) := by
  show (if isS (.int x) && isS (iT l) then some ((l.map PyData.int).any fun z => PyData.eqv z (.int x)) else none) = _
  rw [isS_int, isS_ints, any_ints]; rfl
@[simp] theorem notin_ints {l : List Int} {x : Int} : notInD (.int x) (iT l) = some (!decide (x ∈ l)) := by
  unfold notInD
  rw [in_ints]; rfl
theorem ix_ints0 {l : List Int} : idxD (iT l) (.int 0) = (l.head?).map .int := by
  cases l with
  | nil => rfl
  | cons a r =>
    show (ixN (((a :: r).map PyData.int)).length 0).bind (fun j => ((a :: r).map PyData.int)[j]?) = _
    unfold ixN
    rw [if_pos (by omega), if_pos (by simp)]
    rfl
@[simp] theorem okIf' {c : Prop} [Decidable c] {α : Type} {a b : α} : (if c then R.ok a else R.ok b) = R.ok (if c then a else b) := by split <;> rfl
@[simp] theorem v_NOBODY_eq : v_NOBODY = .int (-1) := rfl
@[simp] theorem v_ENDLESS_eq : v_ENDLESS = .int 3 := rfl
@[simp] theorem v_MOST_LEFT_eq : v_MOST_LEFT = .int 9 := rfl
/-! the program's functions -/
def canTake (U : Ru) (S : Sd) (x : Int) : Bool := if S.h ≠ -1 ∨ x ∈ S.r then false else !U.asked || (decide (S.q = []) || decide (S.q.head? = some x))
theorem ev_can_take {U : Ru} {S : Sd} {x : Int} : m_can_take [U.d, S.d, .int x] = .ok (.bool (canTake U S x)) := by
  unfold canTake
  simp only [m_can_take, runD, g_can_take, startE, List.map, List.length, List.replicate, List.cons_append, List.nil_append, e_sSeq, e_sAsg, e_getS, e_get0, R.bd_ok, R.to_ok, tgO]
  rw [S_vals rfl]
  simp
  by_cases h1 : S.h = -1
  · by_cases h2 : x ∈ S.r
    · simp [h1, h2]
    · cases ha : U.asked
      · simp [h1, h2, ha]
      · cases hq : S.q with
        | nil => simp [h1, h2, ha, hq]
        | cons a r => simp [h1, h2, ha, hq, ix_ints0]
  · simp [h1]
def rLeft (U : Ru) (l : Int) : Int := U.a + if U.due then l else 0
theorem ev_renewed_left {U : Ru} {l : Int} : m_renewed_left [U.d, .int l] = .ok (.int (rLeft U l)) := by
  unfold rLeft
  cases hd : U.due <;> simp [m_renewed_left, runD, g_renewed_left, startE, hd]
def canRenew (U : Ru) (S : Sd) : Bool := if S.h = -1 ∨ S.l < 0 ∨ (U.b ≤ S.u ∧ U.b ≠ 3) then false else (decide (S.q = []) || !U.bar) && decide (rLeft U S.l ≤ 9)
theorem ev_can_renew {U : Ru} {S : Sd} : m_can_renew [U.d, S.d] = .ok (.bool (canRenew U S)) := by
  unfold canRenew
  simp only [m_can_renew, runD, g_can_renew, startE, List.map, List.length, List.replicate, List.cons_append, List.nil_append, e_sSeq, e_sAsg, e_getS, e_get0, R.bd_ok, R.to_ok, tgO]
  rw [S_vals rfl]
  simp
  by_cases h1 : S.h = -1
  · simp [h1]
  by_cases h2 : S.l < 0
  · simp [h1, h2]
  by_cases h3 : U.b ≤ S.u
  · by_cases h4 : U.b = 3
    · by_cases h5 : S.q = []
      · simp [h1, h2, h3, h4, h5, ev_renewed_left]
      · cases hb : U.bar <;> simp [h1, h2, h3, h4, h5, hb, ev_renewed_left]
    · simp [h1, h2, h3, h4]
  · by_cases h5 : S.q = []
    · simp [h1, h2, h3, h5, ev_renewed_left]
    · cases hb : U.bar <;> simp [h1, h2, h3, h5, hb, ev_renewed_left]
def called (U : Ru) (l : Int) (q : List Int) : Int := if q ≠ [] ∧ 0 < U.c then minI l U.c else l
theorem ev_called {U : Ru} {l : Int} {q : List Int} : m_called [U.d, .int l, iT q] = .ok (.int (called U l q)) := by
  unfold called
  by_cases h1 : q = []
  · simp [m_called, runD, g_called, startE, h1]
  · by_cases h2 : 0 < U.c
    · simp [m_called, runD, g_called, startE, h1, h2, ints2]
    · simp [m_called, runD, g_called, startE, h1, h2]
def fDays (U : Ru) (h : Int) (q : List Int) : Int := if h = -1 ∧ q ≠ [] then U.f else 0
theorem ev_fetch_days {U : Ru} {h : Int} {q : List Int} : m_fetch_days [U.d, .int h, iT q] = .ok (.int (fDays U h q)) := by
  unfold fDays
  by_cases h1 : h = -1
  · by_cases h2 : q = [] <;> simp [m_fetch_days, runD, g_fetch_days, startE, h1, h2]
  · simp [m_fetch_days, runD, g_fetch_days, startE, h1]
theorem iT_drop {q : List Int} {j : Nat} : sliceD (some (j : Int)) none (iT q) = some (iT (q.drop j)) := by
  rw [iT, d_dropT, ← List.map_drop]; rfl
theorem iT_take {q : List Int} {j : Nat} : sliceD none (some (j : Int)) (iT q) = some (iT (q.take j)) := by
  rw [iT, d_takeT, ← List.map_take]; rfl
@[simp] theorem iT_drop1 {q : List Int} : sliceD (some 1) none (iT q) = some (iT q.tail) := by rw [← List.drop_one]; exact iT_drop (j := 1)
@[simp] theorem iT_take1 {q : List Int} : sliceD none (some 1) (iT q) = some (iT (q.take 1)) := iT_take (j := 1)
theorem iT_add {q r : List Int} (h : q.length + r.length ≤ 1000) : addD (iT q) (iT r) = some (iT (q ++ r)) := by
  rw [iT, iT, d_addT (by simpa using h), ← List.map_append]; rfl
theorem iT_nil : PyData.tuple [] = iT [] := rfl
theorem iT_one {x : Int} : PyData.tuple [.int x] = iT [x] := rfl
theorem line7 {a b c d e f g : PyData} {k : R PyData} : lineOk [a, b, c, d, e, f, g] k = k := e_line (by simp)
def nightQ (U : Ru) (q : List Int) : List Int := q.tail ++ if U.fin then q.take 1 else []
def night (U : Ru) (S : Sd) : Sd := if S.h ≠ -1 then ⟨S.h, maxI (-1) (S.l - 1), S.u, maxI 0 (S.g - 1), S.q, 0, []⟩
  else if S.t = 1 then ⟨-1, 0, 0, 0, nightQ U S.q, fDays U (-1) (nightQ U S.q), []⟩ else ⟨-1, 0, 0, 0, S.q, maxI 0 (S.t - 1), []⟩
theorem ev_night {U : Ru} {S : Sd} (hq : S.q.length ≤ 400) : m_night [U.d, S.d] = .ok (night U S).d := by
  have ha : ∀ q : List Int, q.length ≤ 400 → addD (iT q.tail) (iT (q.take 1)) = some (iT (q.tail ++ q.take 1)) := fun q h => iT_add (by simp only [List.length_tail, List.length_take]; omega)
  have hb : ∀ q : List Int, q.length ≤ 400 → addD (iT q.tail) (.tuple []) = some (iT q.tail) := fun q h => by rw [iT_nil, iT_add (by simp only [List.length_tail, List.length_nil]; omega), List.append_nil]
  unfold night nightQ
  simp only [m_night, runD, g_night, startE, List.map, List.length, List.replicate, List.cons_append, List.nil_append, e_sSeq, e_sAsg, e_getS, e_get0, R.bd_ok, R.to_ok, tgO]
  rw [S_vals rfl]
  simp
  by_cases h1 : S.h = -1
  · by_cases h2 : S.t = 1
    · cases hf : U.fin
      · simp [h1, h2, hf, hb S.q hq, line7, ev_fetch_days]; rfl
      · simp [h1, h2, hf, ha S.q hq, line7, ev_fetch_days]; rfl
    · simp [h1, h2, line7, ints2]; rfl
  · simp [h1, line7, ints2, negD]; rfl
inductive De where
  | ask (x : Int) | back | day | drop (x : Int) | renew | take (x : Int)
deriving DecidableEq
def De.d : De → PyData
  | .ask x => .tuple [.str "ask", .int x]
  | .back => .tuple [.str "back"]
  | .day => .tuple [.str "day"]
  | .drop x => .tuple [.str "drop", .int x]
  | .renew => .tuple [.str "renew"]
  | .take x => .tuple [.str "take", .int x]
@[simp] theorem w_ask_ask : eqD (.str "ask") (.str "ask") = some true := by kernel_rfl
@[simp] theorem w_ask_back : eqD (.str "ask") (.str "back") = some false := by kernel_rfl
@[simp] theorem w_ask_day : eqD (.str "ask") (.str "day") = some false := by kernel_rfl
@[simp] theorem w_ask_drop : eqD (.str "ask") (.str "drop") = some false := by kernel_rfl
@[simp] theorem w_ask_renew : eqD (.str "ask") (.str "renew") = some false := by kernel_rfl
@[simp] theorem w_ask_take : eqD (.str "ask") (.str "take") = some false := by kernel_rfl
@[simp] theorem w_back_ask : eqD (.str "back") (.str "ask") = some false := by kernel_rfl
@[simp] theorem w_back_back : eqD (.str "back") (.str "back") = some true := by kernel_rfl
@[simp] theorem w_back_day : eqD (.str "back") (.str "day") = some false := by kernel_rfl
@[simp] theorem w_back_drop : eqD (.str "back") (.str "drop") = some false := by kernel_rfl
@[simp] theorem w_back_renew : eqD (.str "back") (.str "renew") = some false := by kernel_rfl
@[simp] theorem w_back_take : eqD (.str "back") (.str "take") = some false := by kernel_rfl
@[simp] theorem w_day_ask : eqD (.str "day") (.str "ask") = some false := by kernel_rfl
@[simp] theorem w_day_back : eqD (.str "day") (.str "back") = some false := by kernel_rfl
@[simp] theorem w_day_day : eqD (.str "day") (.str "day") = some true := by kernel_rfl
@[simp] theorem w_day_drop : eqD (.str "day") (.str "drop") = some false := by kernel_rfl
@[simp] theorem w_day_renew : eqD (.str "day") (.str "renew") = some false := by kernel_rfl
@[simp] theorem w_day_take : eqD (.str "day") (.str "take") = some false := by kernel_rfl
@[simp] theorem w_drop_ask : eqD (.str "drop") (.str "ask") = some false := by kernel_rfl
@[simp] theorem w_drop_back : eqD (.str "drop") (.str "back") = some false := by kernel_rfl
@[simp] theorem w_drop_day : eqD (.str "drop") (.str "day") = some false := by kernel_rfl
@[simp] theorem w_drop_drop : eqD (.str "drop") (.str "drop") = some true := by kernel_rfl
@[simp] theorem w_drop_renew : eqD (.str "drop") (.str "renew") = some false := by kernel_rfl
@[simp] theorem w_drop_take : eqD (.str "drop") (.str "take") = some false := by kernel_rfl
@[simp] theorem w_renew_ask : eqD (.str "renew") (.str "ask") = some false := by kernel_rfl
@[simp] theorem w_renew_back : eqD (.str "renew") (.str "back") = some false := by kernel_rfl
@[simp] theorem w_renew_day : eqD (.str "renew") (.str "day") = some false := by kernel_rfl
@[simp] theorem w_renew_drop : eqD (.str "renew") (.str "drop") = some false := by kernel_rfl
@[simp] theorem w_renew_renew : eqD (.str "renew") (.str "renew") = some true := by kernel_rfl
@[simp] theorem w_renew_take : eqD (.str "renew") (.str "take") = some false := by kernel_rfl
@[simp] theorem w_take_ask : eqD (.str "take") (.str "ask") = some false := by kernel_rfl
@[simp] theorem w_take_back : eqD (.str "take") (.str "back") = some false := by kernel_rfl
@[simp] theorem w_take_day : eqD (.str "take") (.str "day") = some false := by kernel_rfl
@[simp] theorem w_take_drop : eqD (.str "take") (.str "drop") = some false := by kernel_rfl
@[simp] theorem w_take_renew : eqD (.str "take") (.str "renew") = some false := by kernel_rfl
@[simp] theorem w_take_take : eqD (.str "take") (.str "take") = some true := by kernel_rfl
@[simp] theorem ix1 {p : PyData} : idxD (.tuple [p]) (.int 0) = some p := rfl
@[simp] theorem ix2a {p q : PyData} : idxD (.tuple [p, q]) (.int 0) = some p := rfl
@[simp] theorem ix2b {p q : PyData} : idxD (.tuple [p, q]) (.int 1) = some q := rfl
@[simp] theorem line1 {a : PyData} {k : R PyData} : lineOk [a] k = k := e_line (by simp)
@[simp] theorem line2 {a b : PyData} {k : R PyData} : lineOk [a, b] k = k := e_line (by simp)
theorem filt_iT {T : Tg} {tt : Rho → R Bool} {te : Rho → R PyData} {ρ : Rho} {p : Int → Bool} : ∀ {q : List Int}, (∀ x, x ∈ q → ∃ xs, T.vals (.int x) = some xs ∧ tt (setE ρ T.ix xs) = .ok (p x) ∧ te (setE ρ T.ix xs) = .ok (.int x)) → lcD T tt te ρ (q.map .int) = .ok ((q.filter p).map .int)
  | [], _ => rfl
  | x :: q, h => by
    obtain ⟨xs, h1, h2, h3⟩ := h x List.mem_cons_self
    have ih := filt_iT (T := T) (tt := tt) (te := te) (ρ := ρ) (p := p) (q := q) fun y hy => h y (List.mem_cons_of_mem _ hy)
    rw [List.map_cons]
    unfold lcD
    simp only [h1, h2, h3, e_calm1, R.bd_ok, ih, List.filter_cons]
    cases p x <;> rfl
theorem asSeq_iT {q : List Int} : asSeq (iT q) = some (q.map .int) := rfl
def srt (l : List Int) : List Int := l.mergeSort fun a b => PySem.W.dataLe false id (.int a) (.int b)
theorem sorted_iT {l : List Int} (h : l.length ≤ 1000) : sortedD [iT l] = some (.list ((srt l).map .int)) := by
  have h1 : sortOk (l.map PyData.int) = true := by
    unfold sortOk
    rw [Bool.and_eq_true, Bool.and_eq_true, Bool.and_eq_true]
    refine ⟨⟨⟨?_, ?_⟩, ?_⟩, ?_⟩
    · refine List.all_eq_true.mpr fun x hx => List.all_eq_true.mpr fun y hy => ?_
      obtain ⟨i, _, rfl⟩ := List.mem_map.mp hx
      obtain ⟨j, _, rfl⟩ := List.mem_map.mp hy
      rfl
    · rw [Bool.or_eq_true]
      right
      refine List.all_eq_true.mpr fun x hx => ?_
      obtain ⟨i, _, rfl⟩ := List.mem_map.mp hx
      rfl
    · refine List.all_eq_true.mpr fun x hx => ?_
      obtain ⟨i, _, rfl⟩ := List.mem_map.mp hx
      simp
    · rw [List.length_map, sizeLine_eq]
      exact decide_eq_true (by omega)
  show (if sortOk (l.map PyData.int) then some (PyData.list (sortL (l.map PyData.int))) else none) = _
  rw [if_pos h1]
  unfold sortL srt
  rw [List.map_mergeSort (s := PySem.W.dataLe false id) (f := PyData.int) fun a _ b _ => rfl]
def without (q : List Int) (x : Int) : List Int := q.filter fun y => !decide (y = x)
def done (U : Ru) (S : Sd) : De → Sd
  | .day => night U S
  | .take x => ⟨x, called U U.a (without S.q x), 0, U.a, without S.q x, 0, S.r⟩
  | .renew => ⟨S.h, called U (rLeft U S.l) S.q, if U.b ≠ 3 then S.u + 1 else 0, rLeft U S.l, S.q, 0, S.r⟩
  | .back => ⟨-1, 0, 0, 0, S.q, fDays U (-1) S.q, if U.rest then srt (S.r ++ [S.h]) else []⟩
  | .ask x => ⟨S.h, called U S.l (S.q ++ [x]), S.u, S.g, S.q ++ [x], if S.h = -1 ∧ S.q = [] then U.f else S.t, S.r⟩
  | .drop x => ⟨S.h, S.l, S.u, S.g, without S.q x, if S.q.head? = some x then fDays U S.h (without S.q x) else S.t, S.r⟩
theorem tup_iT {l : List Int} : tupleD [.list (l.map .int)] = some (iT l) := rfl
theorem iT_len {l : List Int} (h : l.length ≤ 1000) : (l.map PyData.int).length ≤ sizeLine := by rw [List.length_map, sizeLine_eq]; omega
theorem ev_done {U : Ru} {S : Sd} {d : De} (hq : S.q.length ≤ 400) (hr : S.r.length ≤ 400) (hd : ∀ x, d = .drop x → S.q ≠ []) : m_done [U.d, S.d, d.d] = .ok (done U S d).d := by
  simp only [m_done, runD, g_done, startE, List.map, List.length, List.replicate, List.cons_append, List.nil_append, e_sSeq, e_sAsg, e_getS, e_get0, R.bd_ok, R.to_ok, tgO]
  rw [S_vals rfl]
  have hl : S.q.length ≤ sizeLine := by rw [sizeLine_eq]; omega
  have ef : ∀ {a b c e f g h i j k l n o : Sl} (dd : PyData) (x : Int), idxD dd (.int 1) = some (.int x) → lcD (.one 12) (gCmp .NotEq (getV 12) (gIx (getV 2) (gK (.int 1)))) (getV 12) [a, b, .d dd, c, e, f, g, h, i, j, k, l, .u, n, o] (S.q.map .int) = .ok ((without S.q x).map .int) := fun dd x hx =>
    filt_iT (p := fun y => !decide (y = x)) fun y hy => ⟨_, rfl, by simp [hx], by simp⟩
  have eadd : ∀ (q : List Int) (x : Int), q.length ≤ 400 → addD (iT q) (.tuple [.int x]) = some (iT (q ++ [x])) := fun q x h => by
    rw [iT_one, iT_add (by simp only [List.length_cons, List.length_nil]; omega)]
  cases d with
  | day => simp [De.d, done, ev_night hq]
  | take x =>
    simp [De.d, done, wipeE, line7, asSeq_iT, hl, -d_tupL]
    rw [ef (.tuple [.str "take", .int x]) x rfl]
    simp [tup_iT, ev_called, line7, -d_tupL]
    rfl
  | renew =>
    by_cases hb : U.b = 3
    · simp [De.d, done, ev_renewed_left, line7, ev_called, hb]
      rfl
    · simp [De.d, done, ev_renewed_left, line7, ev_called, hb]
      rfl
  | back =>
    cases hb : U.rest
    · simp [De.d, done, line7, ev_fetch_days, hb]
      rfl
    · simp [De.d, done, line7, ev_fetch_days, hb, eadd S.r S.h hr, sorted_iT (l := S.r ++ [S.h]) (by simp only [List.length_append, List.length_cons, List.length_nil]; omega), tup_iT, -d_tupL]
      rfl
  | ask x =>
    by_cases hb : S.h = -1 ∧ S.q = []
    · have e0 : addD (iT []) (.tuple [.int x]) = some (iT [x]) := eadd [] x (by simp)
      simp [De.d, done, line7, e0, ev_called, hb]
      rfl
    · simp [De.d, done, line7, eadd S.q x hq, ev_called, hb]
      rfl
  | drop x =>
    obtain ⟨a, r, hq2⟩ : ∃ a r, S.q = a :: r := List.exists_cons_of_ne_nil (hd x rfl)
    have er := ef (a := .d U.d) (b := .d S.d) (c := .d (.int S.h)) (e := .d (.int S.l)) (f := .d (.int S.u)) (g := .d (.int S.g)) (h := .d (iT S.q)) (i := .d (.int S.t)) (j := .d (iT S.r)) (k := .d (.str "drop")) (l := .u) (n := .u) (o := .u) (.tuple [.str "drop", .int x]) x rfl
    have e0 : idxD (iT S.q) (.int 0) = some (.int a) := by rw [ix_ints0, hq2]; rfl
    by_cases hb : a = x
    · have h9 : (S.q.head? = some x) := by rw [hq2, hb]; rfl
      simp [De.d, done, line7, wipeE, asSeq_iT, hl, er, tup_iT, e0, ev_fetch_days, hb, h9, -d_tupL]
      rfl
    · have h9 : ¬ (S.q.head? = some x) := by rw [hq2]; intro z; exact hb (Option.some.inj z)
      simp [De.d, done, line7, wipeE, asSeq_iT, hl, er, tup_iT, e0, hb, h9, -d_tupL]
      rfl
end RL

namespace RL
open PySem PySem.Spec PyProof.Rows L2
/-! ### the law's deeds -/
structure Sd.Ok (U : Ru) (k : Nat) (S : Sd) : Prop where
  h0 : -1 ≤ S.h
  t0 : S.h ≠ -1 → S.t = 0
  t1 : S.h = -1 → S.q = [] → S.t = 0
  t2 : S.h = -1 → S.q ≠ [] → 1 ≤ S.t
  u0 : U.b ≠ 3 → S.u ≤ U.b
  ql : S.q.length ≤ k
  rl : S.r.length ≤ k
def opt (b : Bool) (S : Sd) : PyData := if b then S.d else .none
theorem called_eq {U : Ru} {l : Int} {q : List Int} : called U l q = if q ≠ [] ∧ 0 < U.c ∧ U.c < l then U.c else l := by
  unfold called minI
  by_cases h1 : q ≠ [] <;> by_cases h2 : 0 < U.c <;> by_cases h3 : U.c < l <;> simp [h1, h2, h3]
theorem ev_law_night {U : Ru} {S : Sd} {k : Nat} (hS : S.Ok U k) (hk : k ≤ 200) : m_law_night [U.d, S.d] = .ok (night U S).d := by
  have hq : S.q.length ≤ 400 := by have := hS.ql; omega
  have ha : ∀ q : List Int, q.length ≤ 400 → addD (iT q.tail) (iT (q.take 1)) = some (iT (q.tail ++ q.take 1)) := fun q h => iT_add (by simp only [List.length_tail, List.length_take]; omega)
  unfold night nightQ
  simp only [m_law_night, runD, g_law_night, startE, List.map, List.length, List.replicate, List.cons_append, List.nil_append, e_sSeq, e_sAsg, e_getS, e_get0, R.bd_ok, R.to_ok, tgO]
  rw [S_vals rfl]
  simp
  by_cases h1 : S.h = -1
  · have h1' : ¬ (0 ≤ S.h) := by omega
    by_cases h2 : S.q = []
    · have ht := hS.t1 h1 h2
      simp [h1, h2, ht, line7, negD, maxI]
      rfl
    · have ht := hS.t2 h1 h2
      obtain ⟨a, r, hq2⟩ : ∃ a r, S.q = a :: r := List.exists_cons_of_ne_nil h2
      by_cases h3 : S.t = 1
      · cases hf : U.fin
        · by_cases h4 : r = []
          · simp [h1, h2, h3, hf, h4, hq2, line7, negD, fDays]
            rfl
          · simp [h1, h2, h3, hf, h4, hq2, line7, negD, fDays]
            rfl
        · have e0 : addD (iT r) (iT [a]) = some (iT (r ++ [a])) := iT_add (by rw [hq2] at hq; simp only [List.length_cons, List.length_nil] at hq ⊢; omega)
          simp [h1, h2, h3, hf, hq2, line7, negD, fDays, e0]
          rfl
      · have h5 : 1 < S.t := by omega
        simp [h1, h2, h3, line7, negD, maxI, h5]
        rfl
  · have h1' : 0 ≤ S.h := by have := hS.h0; omega
    have e1 : (if -1 < S.l then PyData.int (S.l - 1) else PyData.int (-1)) = .int (if -1 < S.l - 1 then S.l - 1 else -1) := by
      split <;> split <;> first | rfl | (congr 1; omega)
    have e2 : (if 0 < S.g then PyData.int (S.g - 1) else PyData.int 0) = .int (if 1 < S.g then S.g - 1 else 0) := by
      split <;> split <;> first | rfl | (congr 1; omega)
    simp [h1, h1', line7, negD, maxI]
    rw [e1, e2]
    rfl
theorem dsel_due {b : Bool} {l : Int} : dselD ["due", "today"] [.int l, .int 0] (.str (sDue b)) = some (.int (if b then l else 0)) := by cases b <;> kernel_rfl
theorem dok_due {l : Int} : dokD ["due", "today"] [.int l, .int 0] = some () := by kernel_rfl
theorem ev_law_taken {U : Ru} {S : Sd} {k : Nat} {x : Int} (hS : S.Ok U k) (hk : k ≤ 200) : m_law_taken [U.d, S.d, .int x] = .ok (opt (canTake U S x) (done U S (.take x))) := by
  have hq : S.q.length ≤ 400 := by have := hS.ql; omega
  have hl : S.q.length ≤ sizeLine := by rw [sizeLine_eq]; omega
  have ef : lcD (.one 11) (gCmp .NotEq (getV 11) (getV 2)) (getV 11) [.d U.d, .d S.d, .d (.int x), .d (.int S.h), .d (.int S.l), .d (.int S.u), .d (.int S.g), .d (iT S.q), .d (.int S.t), .d (iT S.r), .u, .u, .u] (S.q.map .int) = .ok ((without S.q x).map .int) :=
    filt_iT (p := fun y => !decide (y = x)) fun y hy => ⟨_, rfl, by simp, by simp⟩
  unfold opt canTake done
  rw [called_eq]
  simp only [m_law_taken, runD, g_law_taken, startE, List.map, List.length, List.replicate, List.cons_append, List.nil_append, e_sSeq, e_sAsg, e_getS, e_get0, R.bd_ok, R.to_ok, tgO]
  rw [S_vals rfl]
  simp
  by_cases h1 : S.h = -1
  · have h1' : ¬ (0 ≤ S.h) := by omega
    by_cases h2 : x ∈ S.r
    · simp [h1, h2]
    · by_cases h3 : U.asked = true ∧ S.q ≠ [] ∧ S.q.head? ≠ some x
      · obtain ⟨ha, hb, hc⟩ := h3
        obtain ⟨a, r, hq2⟩ : ∃ a r, S.q = a :: r := List.exists_cons_of_ne_nil hb
        have hc' : ¬ a = x := fun z => hc (by rw [hq2, z]; rfl)
        simp [h1, h2, ha, hq2, ix_ints0, hc']
      · have hcan : (!U.asked || (decide (S.q = []) || decide (S.q.head? = some x))) = true := by
          cases ha : U.asked
          · simp
          · by_cases hb : S.q = []
            · simp [hb]
            · by_cases hc : S.q.head? = some x
              · simp [hc]
              · exact (h3 ⟨ha, hb, hc⟩).elim
        have hcond : (gAnd (gCmp .Eq (gIx (getV 0) (gK (.int 5))) (gK (.str "asked"))) (gAnd (gCmp .NotEq (getV 7) (gTup gNil)) (gCmp .NotEq (gIx (getV 7) (gK (.int 0))) (getV 2)))) [.d U.d, .d S.d, .d (.int x), .d (.int S.h), .d (.int S.l), .d (.int S.u), .d (.int S.g), .d (iT S.q), .d (.int S.t), .d (iT S.r), .u, .u, .u] = .ok false := by
          cases ha : U.asked
          · simp [ha]
          · by_cases hb : S.q = []
            · simp [ha, hb]
            · obtain ⟨a, r, hq2⟩ : ∃ a r, S.q = a :: r := List.exists_cons_of_ne_nil hb
              have hc : a = x := by
                by_cases hc : S.q.head? = some x
                · rw [hq2] at hc; exact Option.some.inj hc
                · exact (h3 ⟨ha, hb, hc⟩).elim
              simp [ha, hq2, ix_ints0, hc]
        have hcond2 : (if U.asked = true then if S.q = [] then R.ok false else (R.of (idxD (iT S.q) (.int 0))).bd fun x_1 => R.of (neD x_1 (.int x)) else R.ok false) = R.ok false := by simpa using hcond
        have hR : (S.h = -1 ∧ ¬x ∈ S.r) ∧ (U.asked = false ∨ S.q = [] ∨ S.q.head? = some x) := ⟨⟨h1, h2⟩, by simpa using hcan⟩
        rw [if_pos hR, if_neg h1', if_neg h2, hcond2, called_eq]
        simp only [R.to_ok, Bool.false_eq_true, if_false, O.th_nx]
        generalize hw : without S.q x = w at ef ⊢
        by_cases hw1 : w = []
        · simp [wipeE, asSeq_iT, hl, ef, tup_iT, hw1, -d_tupL, line7]
          rfl
        · by_cases hc0 : 0 < U.c
          · by_cases hc1 : U.c < U.a
            · simp [wipeE, asSeq_iT, hl, ef, tup_iT, hw1, hc0, hc1, -d_tupL, line7]
              rfl
            · simp [wipeE, asSeq_iT, hl, ef, tup_iT, hw1, hc0, hc1, -d_tupL, line7]
              rfl
          · simp [wipeE, asSeq_iT, hl, ef, tup_iT, hw1, hc0, -d_tupL, line7]
            rfl
  · have h1' : 0 ≤ S.h := by have := hS.h0; omega
    simp [h1, h1']
theorem ev_law_renewed {U : Ru} {S : Sd} {k : Nat} (hU : U.Ok) (hS : S.Ok U k) (hk : k ≤ 200) : m_law_renewed [U.d, S.d] = .ok (opt (canRenew U S) (done U S .renew)) := by
  have h0 := hS.h0
  have hb2 := hU.b2
  unfold opt canRenew done
  rw [called_eq]
  simp only [m_law_renewed, runD, g_law_renewed, startE, List.map, List.length, List.replicate, List.cons_append, List.nil_append, e_sSeq, e_sAsg, e_getS, e_get0, R.bd_ok, R.to_ok, tgO]
  rw [S_vals rfl]
  have hn : U.a + (if U.due = true then S.l else 0) = rLeft U S.l := rfl
  simp [dsel_due, dok_due, hn]
  generalize rLeft U S.l = w
  by_cases h1 : S.h = -1
  · have h1' : S.h < 0 := by omega
    simp [h1, h1']
  have h1' : ¬ S.h < 0 := by omega
  by_cases h2 : S.l < 0
  · have h2' : ¬ 0 ≤ S.l := by omega
    simp [h1, h1', h2, h2']
  have h2' : 0 ≤ S.l := by omega
  by_cases h3 : 9 < w
  · have h3' : ¬ w ≤ 9 := by omega
    simp [h1, h1', h2, h2', h3, h3']
  have h3' : w ≤ 9 := by omega
  by_cases h4 : U.b = 3
  · by_cases h5 : S.q = []
    · cases hb : U.bar <;> simp [h1, h1', h2, h2', h3, h3', h4, h5, hb, line7] <;> rfl
    · cases hb : U.bar
      · by_cases hc0 : 0 < U.c
        · by_cases hc1 : U.c < w
          · simp [h1, h1', h2, h2', h3, h3', h4, h5, hb, hc0, hc1, line7]; rfl
          · simp [h1, h1', h2, h2', h3, h3', h4, h5, hb, hc0, hc1, line7]; rfl
        · simp [h1, h1', h2, h2', h3, h3', h4, h5, hb, hc0, line7]; rfl
      · simp [h1, h1', h2, h2', h3, h3', h4, h5, hb]
  · have h4' : U.b < 3 := by omega
    have hu := hS.u0 h4
    by_cases h6 : S.u = U.b
    · simp [h1, h1', h2, h2', h3, h4, h4', h6]
    · have h6' : S.u < U.b := by omega
      by_cases h5 : S.q = []
      · cases hb : U.bar <;> simp [h1, h1', h2, h2', h3, h3', h4, h4', h6, h6', h5, hb, line7] <;> rfl
      · cases hb : U.bar
        · by_cases hc0 : 0 < U.c
          · by_cases hc1 : U.c < w
            · simp [h1, h1', h2, h2', h3, h3', h4, h4', h6, h6', h5, hb, hc0, hc1, line7]; rfl
            · simp [h1, h1', h2, h2', h3, h3', h4, h4', h6, h6', h5, hb, hc0, hc1, line7]; rfl
          · simp [h1, h1', h2, h2', h3, h3', h4, h4', h6, h6', h5, hb, hc0, line7]; rfl
        · simp [h1, h1', h2, h2', h3, h3', h4, h4', h6, h6', h5, hb]
end RL

namespace RL
open PySem PySem.Spec PyProof.Rows L2
def can (U : Ru) (S : Sd) : De → Bool
  | .ask x => decide (x ≠ S.h) && decide (x ∉ S.q)
  | .back => decide (S.h ≠ -1)
  | .day => true
  | .drop x => decide (x ∈ S.q)
  | .renew => canRenew U S
  | .take x => canTake U S x
theorem mul0 {U : Ru} (hU : U.Ok) : mulD (.int U.f) (.int 0) = some (.int 0) := by
  have h1 := hU.f1
  have h2 := hU.f2
  show (if (-(2 ^ 64) < U.f ∧ U.f < 2 ^ 64) ∨ _ then some (PyData.int (U.f * 0)) else none) = _
  rw [if_pos (.inl (by omega)), Int.mul_zero]
theorem mul1 {U : Ru} (hU : U.Ok) : mulD (.int U.f) (.int 1) = some (.int U.f) := by
  have h1 := hU.f1
  have h2 := hU.f2
  show (if (-(2 ^ 64) < U.f ∧ U.f < 2 ^ 64) ∨ _ then some (PyData.int (U.f * 1)) else none) = _
  rw [if_pos (.inl (by omega)), Int.mul_one]
@[simp] theorem d_intB {b : Bool} : intD [.bool b] = some (.int (if b = true then 1 else 0)) := rfl
theorem ev_law_done {U : Ru} {S : Sd} {k : Nat} {n : Int} {d : De} (hU : U.Ok) (hS : S.Ok U k) (hk : k ≤ 200) : m_law_done [U.d, .int n, S.d, d.d] = .ok (opt (can U S d) (done U S d)) := by
  have h0 := hS.h0
  have hq : S.q.length ≤ 400 := by have := hS.ql; omega
  have hr : S.r.length ≤ 400 := by have := hS.rl; omega
  have hl : S.q.length ≤ sizeLine := by rw [sizeLine_eq]; omega
  have eadd : ∀ (q : List Int) (x : Int), q.length ≤ 400 → addD (iT q) (.tuple [.int x]) = some (iT (q ++ [x])) := fun q x h => by
    rw [iT_one, iT_add (by simp only [List.length_cons, List.length_nil]; omega)]
  simp only [m_law_done, runD, g_law_done, startE, List.map, List.length, List.replicate, List.cons_append, List.nil_append, e_sSeq, e_sAsg, e_getS, e_get0, R.bd_ok, R.to_ok, tgO]
  rw [S_vals rfl]
  cases d with
  | day => simp [De.d, done, can, opt, ev_law_night hS hk]
  | take x => simp [De.d, can, ev_law_taken hS hk]
  | renew => simp [De.d, can, ev_law_renewed hU hS hk]
  | back =>
    by_cases h1 : S.h = -1
    · cases hb : U.rest
      · simp [De.d, done, can, opt, hb, h1, line7]
      · simp [De.d, done, can, opt, hb, h1, line7, eadd S.r (-1) hr, sorted_iT (l := S.r ++ [(-1)]) (by simp only [List.length_append, List.length_cons, List.length_nil]; omega), tup_iT, -d_tupL]
    · have h1' : 0 ≤ S.h := by omega
      have es := sorted_iT (l := S.r ++ [S.h]) (by simp only [List.length_append, List.length_cons, List.length_nil]; omega)
      by_cases h5 : S.q = []
      · cases hb : U.rest
        · simp [De.d, done, can, opt, hb, h1, h1', h5, line7, mul0 hU, fDays, negD]
          rfl
        · simp [De.d, done, can, opt, hb, h1, h1', h5, line7, mul0 hU, fDays, negD, eadd S.r S.h hr, es, tup_iT, -d_tupL]
          rfl
      · cases hb : U.rest
        · simp [De.d, done, can, opt, hb, h1, h1', h5, line7, mul1 hU, fDays, negD]
          rfl
        · simp [De.d, done, can, opt, hb, h1, h1', h5, line7, mul1 hU, fDays, negD, eadd S.r S.h hr, es, tup_iT, -d_tupL]
          rfl
  | ask x =>
    by_cases h1 : x = S.h
    · simp [De.d, done, can, opt, h1]
    by_cases h2 : x ∈ S.q
    · simp [De.d, done, can, opt, h1, h2]
    by_cases h3 : S.h < 0 ∧ S.q = []
    · obtain ⟨h3, h5⟩ := h3
      have h4 : S.h = -1 := by omega
      have e0 : addD (iT []) (.tuple [.int x]) = some (iT [x]) := eadd [] x (by simp)
      have h1' : ¬ x = -1 := fun z => h1 (by rw [h4]; exact z)
      by_cases hc0 : 0 < U.c
      · by_cases hc1 : U.c < S.l
        · simp [De.d, done, opt, can, called_eq, h1', h2, h4, h5, hc0, hc1, line7, e0]; rfl
        · simp [De.d, done, opt, can, called_eq, h1', h2, h4, h5, hc0, hc1, line7, e0]; rfl
      · simp [De.d, done, opt, can, called_eq, h1', h2, h4, h5, hc0, line7, e0]; rfl
    · have h3' : ¬ (S.h = -1 ∧ S.q = []) := fun z => h3 ⟨by omega, z.2⟩
      by_cases h4 : S.h < 0
      · have h5 : ¬ S.q = [] := fun z => h3 ⟨h4, z⟩
        by_cases hc0 : 0 < U.c
        · by_cases hc1 : U.c < S.l
          · simp [De.d, done, opt, can, called_eq, h1, h2, h4, h5, hc0, hc1, line7, eadd S.q x hq]; rfl
          · simp [De.d, done, opt, can, called_eq, h1, h2, h4, h5, hc0, hc1, line7, eadd S.q x hq]; rfl
        · simp [De.d, done, opt, can, called_eq, h1, h2, h4, h5, hc0, line7, eadd S.q x hq]; rfl
      · have h6 : ¬ S.h = -1 := by omega
        by_cases hc0 : 0 < U.c
        · by_cases hc1 : U.c < S.l
          · simp [De.d, done, opt, can, called_eq, h1, h2, h4, h6, hc0, hc1, line7, eadd S.q x hq]; rfl
          · simp [De.d, done, opt, can, called_eq, h1, h2, h4, h6, hc0, hc1, line7, eadd S.q x hq]; rfl
        · simp [De.d, done, opt, can, called_eq, h1, h2, h4, h6, hc0, line7, eadd S.q x hq]; rfl
  | drop x =>
    by_cases h2 : x ∈ S.q
    · obtain ⟨a, r, hq2⟩ : ∃ a r, S.q = a :: r := List.exists_cons_of_ne_nil (fun z => by rw [z] at h2; cases h2)
      have er : ∀ hh tt : Int, lcD (.one 13) (gCmp .NotEq (getV 13) (gIx (getV 3) (gK (.int 1)))) (getV 13) [.d U.d, .d (.int n), .d S.d, .d (.tuple [.str "drop", .int x]), .d (.int hh), .d (.int S.l), .d (.int S.u), .d (.int S.g), .d (iT S.q), .d (.int tt), .d (iT S.r), .u, .u, .u] (S.q.map .int) = .ok ((without S.q x).map .int) := fun hh tt =>
        filt_iT (p := fun y => !decide (y = x)) fun y hy => ⟨_, rfl, by simp, by simp⟩
      have e0 : idxD (iT S.q) (.int 0) = some (.int a) := by rw [ix_ints0, hq2]; rfl
      have h9 : S.q.head? = some a := by rw [hq2]; rfl
      by_cases hb : a = x
      · by_cases h4 : S.h < 0
        · have h5 : S.h = -1 := by omega
          by_cases hw : without S.q x = []
          · have et0 : tupleD [.list []] = some (iT []) := rfl
            simp [De.d, done, opt, can, h2, wipeE, asSeq_iT, hl, er, et0, e0, hb, h9, h4, h5, hw, fDays, line7, mul0 hU, -d_tupL]
            rfl
          · simp [De.d, done, opt, can, h2, wipeE, asSeq_iT, hl, er, tup_iT, e0, hb, h9, h4, h5, hw, fDays, line7, mul1 hU, -d_tupL]
            rfl
        · have h5 : ¬ S.h = -1 := by omega
          have ht := hS.t0 h5
          simp [De.d, done, opt, can, h2, wipeE, asSeq_iT, hl, er, tup_iT, e0, hb, h9, h4, h5, ht, fDays, line7, -d_tupL]
          rfl
      · simp [De.d, done, opt, can, h2, wipeE, asSeq_iT, hl, er, tup_iT, e0, hb, h9, line7, -d_tupL]
        rfl
    · simp [De.d, done, opt, can, h2]
end RL

namespace RL
open PySem PySem.Spec PyProof.Rows L2
theorem filtm_iT {T : Tg} {tt : Rho → R Bool} {te : Rho → R PyData} {ρ : Rho} {p : Int → Bool} {f : Int → PyData} : ∀ {q : List Int}, (∀ x, x ∈ q → ∃ xs, T.vals (.int x) = some xs ∧ tt (setE ρ T.ix xs) = .ok (p x) ∧ te (setE ρ T.ix xs) = .ok (f x) ∧ noL (f x) = true) → lcD T tt te ρ (q.map .int) = .ok ((q.filter p).map f)
  | [], _ => rfl
  | x :: q, h => by
    obtain ⟨xs, h1, h2, h3, h4⟩ := h x List.mem_cons_self
    have ih := filtm_iT (T := T) (tt := tt) (te := te) (ρ := ρ) (p := p) (f := f) (q := q) fun y hy => h y (List.mem_cons_of_mem _ hy)
    rw [List.map_cons]
    unfold lcD
    simp only [h1, h2, h3, h4, e_calm1, R.bd_ok, ih, List.filter_cons]
    cases p x <;> rfl
def people : Nat → List Int
  | 0 => []
  | n + 1 => people n ++ [(n : Int)]
theorem people_len : ∀ n, (people n).length = n
  | 0 => rfl
  | n + 1 => by rw [people, List.length_append, people_len n]; rfl
def allDe (n : Nat) : List De := (people n).map .ask ++ ([.back, .day] ++ ((people n).map .drop ++ ([.renew] ++ (people n).map .take)))
theorem listR_n {n : Nat} (h : n = 2 ∨ n = 3) : listR (.int n) = some (.list ((people n).map .int)) := by
  rcases h with rfl | rfl <;> kernel_rfl
def lets (U : Ru) (n : Nat) (S : Sd) : List De := (allDe n).filter (can U S)
theorem ev_deeds_at {U : Ru} {S : Sd} {n : Nat} (hn : n = 2 ∨ n = 3) : m_deeds_at [U.d, .int n, S.d] = .ok (.list ((lets U n S).map De.d)) := by
  have hp := people_len n
  have hz : (people n).length ≤ sizeLine := by rw [hp, sizeLine_eq]; omega
  have hf : ∀ p : Int → Bool, ((people n).filter p).length ≤ 3 := fun p => by
    have := List.length_filter_le p (people n)
    omega
  have e1 : lcD (.one 7) (gAnd (gCmp .NotEq (getV 7) (getV 3)) (gCmp .NotIn (getV 7) (getV 4))) (gTup (gCons (gK (.str "ask")) (gCons (getV 7) gNil))) [.d U.d, .d (.int n), .d S.d, .d (.int S.h), .d (iT S.q), .d (.list ((people n).map .int)), .u, .u] ((people n).map .int) = .ok (((people n).filter fun x => can U S (.ask x)).map fun x => (De.ask x).d) :=
    filtm_iT fun x hx => ⟨_, rfl, by
      by_cases h1 : x = S.h <;> simp [can, h1], by simp [De.d], rfl⟩
  have e2 : ∀ {a b : Sl}, lcD (.one 7) (gCmp .In (getV 7) (getV 4)) (gTup (gCons (gK (.str "drop")) (gCons (getV 7) gNil))) [.d U.d, .d (.int n), .d S.d, .d (.int S.h), .d (iT S.q), .d (.list ((people n).map .int)), a, b] ((people n).map .int) = .ok (((people n).filter fun x => can U S (.drop x)).map fun x => (De.drop x).d) :=
    fun {a b} => filtm_iT fun x hx => ⟨_, rfl, by simp [can], by simp [De.d], rfl⟩
  have e3 : ∀ {a b : Sl}, lcD (.one 7) (gTest (gCall 3 (gCons (getV 0) (gCons (getV 2) (gCons (getV 7) gNil))) m_can_take)) (gTup (gCons (gK (.str "take")) (gCons (getV 7) gNil))) [.d U.d, .d (.int n), .d S.d, .d (.int S.h), .d (iT S.q), .d (.list ((people n).map .int)), a, b] ((people n).map .int) = .ok (((people n).filter fun x => can U S (.take x)).map fun x => (De.take x).d) :=
    fun {a b} => filtm_iT fun x hx => ⟨_, rfl, by simp [can, ev_can_take], by simp [De.d], rfl⟩
  have key : lets U n S = ((people n).filter fun x => can U S (.ask x)).map De.ask ++ ((if S.h = -1 then [] else [De.back]) ++ ([De.day] ++ (((people n).filter fun x => can U S (.drop x)).map De.drop ++ ((if canRenew U S = true then [De.renew] else []) ++ ((people n).filter fun x => can U S (.take x)).map De.take)))) := by
    unfold lets allDe
    rw [List.filter_append, List.filter_append, List.filter_append, List.filter_append, List.filter_map, List.filter_map, List.filter_map]
    have a1 : [De.back, De.day].filter (can U S) = (if S.h = -1 then [] else [De.back]) ++ [De.day] := by
      by_cases h : S.h = -1 <;> simp [can, h]
    have a2 : [De.renew].filter (can U S) = if canRenew U S = true then [De.renew] else [] := by
      cases h : canRenew U S <;> simp [can, h]
    rw [a1, a2, List.append_assoc]
    rfl
  rw [key]
  simp only [m_deeds_at, runD, g_deeds_at, startE, List.map, List.length, List.replicate, List.cons_append, List.nil_append, e_sSeq, e_sAsg, e_getS, e_get0, R.bd_ok, R.to_ok, tgO]
  generalize hA : ((people n).filter fun x => can U S (.ask x)) = A at e1 ⊢
  generalize hB : ((people n).filter fun x => can U S (.drop x)) = B at e2 ⊢
  generalize hC : ((people n).filter fun x => can U S (.take x)) = C at e3 ⊢
  have lA : A.length ≤ 3 := by rw [← hA]; exact hf _
  have lB : B.length ≤ 3 := by rw [← hB]; exact hf _
  have lC : C.length ≤ 3 := by rw [← hC]; exact hf _
  have e0 : listR (.int n) = some (.list ((people n).map .int)) := listR_n hn
  have f1 : (fun x => (De.ask x).d) = De.d ∘ De.ask := rfl
  have f2 : (fun x => (De.drop x).d) = De.d ∘ De.drop := rfl
  have f3 : (fun x => (De.take x).d) = De.d ∘ De.take := rfl
  have dB : PyData.tuple [.str "back"] = De.back.d := rfl
  have dD : PyData.tuple [.str "day"] = De.day.d := rfl
  have dR : PyData.tuple [.str "renew"] = De.renew.d := rfl
  by_cases h1 : S.h = -1
  · simp only [h1] at e1 e2 e3
    cases h2 : canRenew U S
    · simp (disch := (simp only [List.length_append, List.length_map, List.length_cons, List.length_nil]; omega)) [tgO, e0, wipeE, hz, e1, e2, e3, h1, h2, ev_can_renew, f1, f2, f3, dB, dD, dR, d_addL]
    · simp (disch := (simp only [List.length_append, List.length_map, List.length_cons, List.length_nil]; omega)) [tgO, e0, wipeE, hz, e1, e2, e3, h1, h2, ev_can_renew, f1, f2, f3, dB, dD, dR, d_addL]
  · cases h2 : canRenew U S
    · simp (disch := (simp only [List.length_append, List.length_map, List.length_cons, List.length_nil]; omega)) [tgO, e0, wipeE, hz, e1, e2, e3, h1, h2, ev_can_renew, f1, f2, f3, dB, dD, dR, d_addL]
    · simp (disch := (simp only [List.length_append, List.length_map, List.length_cons, List.length_nil]; omega)) [tgO, e0, wipeE, hz, e1, e2, e3, h1, h2, ev_can_renew, f1, f2, f3, dB, dD, dR, d_addL]
end RL

namespace RL
open PySem PySem.Spec PyProof.Rows L2
theorem sort2 : sortL ([De.back, .day, .renew, .ask 0, .ask 1, .drop 0, .drop 1, .take 0, .take 1].map De.d) = (allDe 2).map De.d := by
  unfold sortL
  simp (disch := decide +kernel) [List.mergeSort, List.MergeSort.Internal.splitInTwo, List.cons_merge_cons_pos, List.cons_merge_cons_neg, allDe, people]
theorem sort3 : sortL ([De.back, .day, .renew, .ask 0, .ask 1, .ask 2, .drop 0, .drop 1, .drop 2, .take 0, .take 1, .take 2].map De.d) = (allDe 3).map De.d := by
  unfold sortL
  simp (disch := decide +kernel) [List.mergeSort, List.MergeSort.Internal.splitInTwo, List.cons_merge_cons_pos, List.cons_merge_cons_neg, allDe, people]
theorem law_deeds_pre2 : m_law_deeds [.int (2 : Nat)] = (R.of (sortedD [.list ([De.back, .day, .renew, .ask 0, .ask 1, .drop 0, .drop 1, .take 0, .take 1].map De.d)])) := by kernel_rfl
theorem law_deeds_pre3 : m_law_deeds [.int (3 : Nat)] = (R.of (sortedD [.list ([De.back, .day, .renew, .ask 0, .ask 1, .ask 2, .drop 0, .drop 1, .drop 2, .take 0, .take 1, .take 2].map De.d)])) := by kernel_rfl
theorem ev_law_deeds {n : Nat} (hn : n = 2 ∨ n = 3) : m_law_deeds [.int n] = .ok (.list ((allDe n).map De.d)) := by
  rcases hn with rfl | rfl
  · rw [law_deeds_pre2]
    show R.of (if sortOk ([De.back, .day, .renew, .ask 0, .ask 1, .drop 0, .drop 1, .take 0, .take 1].map De.d) then some (PyData.list (sortL _)) else none) = _
    rw [if_pos (by decide +kernel), sort2]; rfl
  · rw [law_deeds_pre3]
    show R.of (if sortOk ([De.back, .day, .renew, .ask 0, .ask 1, .ask 2, .drop 0, .drop 1, .drop 2, .take 0, .take 1, .take 2].map De.d) then some (PyData.list (sortL _)) else none) = _
    rw [if_pos (by decide +kernel), sort3]; rfl
theorem ev_begun : m_law_begun [] = .ok (⟨-1, 0, 0, 0, [], 0, []⟩ : Sd).d := by kernel_rfl
def first : Sd := ⟨-1, 0, 0, 0, [], 0, []⟩
theorem v_FIRST_eq : v_FIRST = first.d := rfl
theorem De.eqv {d e : De} : PyData.eqv d.d e.d = decide (d = e) := by
  cases d <;> cases e <;> simp [De.d, PyData.eqv, PyData.eqvAll] <;> first | rfl | (intro h; exact absurd h (by decide +kernel))
theorem isS_De (d : De) : isS d.d = true := by
  refine isS_of (n := 1) ?_
  cases d <;> kernel_rfl
theorem isS_Des (l : List De) : isS (.list (l.map De.d)) = true := by
  refine isS_of (n := 2) (List.all_eq_true.mpr fun x hx => ?_)
  obtain ⟨d, _, rfl⟩ := List.mem_map.mp hx
  cases d <;> simp [De.d, shN, flat] <;> decide +kernel
theorem in_Des {d : De} {l : List De} : inD d.d (.list (l.map De.d)) = some (decide (d ∈ l)) := by
  show (if isS d.d && isS (.list (l.map De.d)) then some ((l.map De.d).any fun z => PyData.eqv z d.d) else none) = _
  rw [isS_De, isS_Des]
  have : ((l.map De.d).any fun z => PyData.eqv z d.d) = decide (d ∈ l) := by
    induction l with
    | nil => rfl
    | cons a r ih =>
      rw [List.map_cons, List.any_cons, ih, De.eqv]
      by_cases e : a = d
      · subst e; simp
      · have e2 : ¬ d = a := fun z => e z.symm
        simp [e, e2]
  rw [this]; rfl
theorem ev_from {x lo hi : Int} : m_is_from [.int x, .int lo, .int hi] = .ok (.bool (decide (lo ≤ x) && decide (x ≤ hi))) := by
  by_cases h : lo ≤ x <;> simp [m_is_from, runD, g_is_from, startE, isTy, h]
theorem ev_tup {ps : List PyData} {lo hi : Int} : m_is_tuple [.tuple ps, .int lo, .int hi] = .ok (.bool (decide (lo ≤ (ps.length : Int)) && decide ((ps.length : Int) ≤ hi))) := by
  by_cases h : lo ≤ (ps.length : Int) <;> simp [m_is_tuple, runD, g_is_tuple, startE, isTy, h]
theorem mem_people {n : Nat} {x : Int} : x ∈ people n ↔ 0 ≤ x ∧ x < n := by
  induction n with
  | zero =>
    simp only [people, List.not_mem_nil, false_iff]
    omega
  | succ n ih =>
    rw [people, List.mem_append, ih, List.mem_singleton]
    omega
/-- the readers are there -/
def De.inn (n : Nat) : De → Prop
  | .ask x => 0 ≤ x ∧ x < n
  | .drop x => 0 ≤ x ∧ x < n
  | .take x => 0 ≤ x ∧ x < n
  | _ => True
theorem mem_allDe {n : Nat} {d : De} : d ∈ allDe n ↔ d.inn n := by
  cases d <;> simp [allDe, De.inn, mem_people]
theorem ev_is_deed {U : Ru} {S : Sd} {n : Nat} {d : De} (hn : n = 2 ∨ n = 3) (hd : d.inn n) : m_is_deed [U.d, .int n, S.d, d.d] = .ok (.bool (can U S d)) := by
  have hm : decide (d ∈ lets U n S) = can U S d := by
    have h := mem_allDe.mpr hd
    cases hc : can U S d <;> simp [lets, List.mem_filter, h, hc]
  have e1 := ev_deeds_at (U := U) (S := S) hn
  have e2 := in_Des (d := d) (l := lets U n S)
  rw [hm] at e2
  have key : ∀ x : Int, (0 ≤ x ∧ x < n) → decide (0 ≤ x) = true ∧ decide (x ≤ (n : Int) - 1) = true := fun x hx => ⟨decide_eq_true hx.1, decide_eq_true (by omega)⟩
  cases d with
  | ask x =>
    obtain ⟨k1, k2⟩ := key x hd
    simp [De.d] at e2
    simp [m_is_deed, runD, g_is_deed, startE, De.d, ev_tup, isTy, ev_from, k1, k2, e1, e2]
  | drop x =>
    obtain ⟨k1, k2⟩ := key x hd
    simp [De.d] at e2
    simp [m_is_deed, runD, g_is_deed, startE, De.d, ev_tup, isTy, ev_from, k1, k2, e1, e2]
  | take x =>
    obtain ⟨k1, k2⟩ := key x hd
    simp [De.d] at e2
    simp [m_is_deed, runD, g_is_deed, startE, De.d, ev_tup, isTy, ev_from, k1, k2, e1, e2]
  | _ =>
    simp [De.d] at e2
    simp [m_is_deed, runD, g_is_deed, startE, De.d, ev_tup, isTy, e1, e2]
end RL

namespace RL
open PySem PySem.Spec PyProof.Rows L2
theorem first_ok {U : Ru} (hU : U.Ok) : first.Ok U 0 :=
  ⟨by decide, fun h => (h rfl).elim, fun _ _ => rfl, fun _ h => (h rfl).elim, fun _ => hU.b1, Nat.le_refl _, Nat.le_refl _⟩
theorem without_len (q : List Int) (x : Int) : (without q x).length ≤ q.length := List.length_filter_le _ _
theorem Sd.Ok.mono {U : Ru} {k k' : Nat} {S : Sd} (h : S.Ok U k) (hk : k ≤ k') : S.Ok U k' := ⟨h.h0, h.t0, h.t1, h.t2, h.u0, Nat.le_trans h.ql hk, Nat.le_trans h.rl hk⟩
theorem srt_len (l : List Int) : (srt l).length = l.length := by unfold srt; exact List.length_mergeSort _
theorem done_ok {U : Ru} {S : Sd} {k n : Nat} {d : De} (hU : U.Ok) (h : S.Ok U k) (hd : d.inn n) (hc : can U S d = true) : (done U S d).Ok U (k + 1) := by
  have b1 := hU.b1
  have b2 := hU.b2
  have f1 := hU.f1
  obtain ⟨h0, t0, t1, t2, u0, ql, rl⟩ := h
  cases d with
  | day =>
    show (night U S).Ok U (k + 1)
    unfold night
    by_cases e1 : S.h = -1
    · rw [if_neg (fun z => z e1)]
      have nl : (nightQ U S.q).length ≤ k + 1 := by
        unfold nightQ
        have := List.length_tail (l := S.q)
        cases U.fin <;> simp <;> omega
      by_cases e2 : S.t = 1
      · rw [if_pos e2]
        refine ⟨by simp, fun h => (h rfl).elim, fun _ q => ?_, fun _ q => ?_, fun _ => by simp; omega, nl, by simp⟩
        · simp [fDays, q] at q ⊢; intro z; exact (z q).elim
        · simp [fDays]; simp at q; simp [q]; omega
      · rw [if_neg e2]
        refine ⟨by simp, fun h => (h rfl).elim, fun _ q => ?_, fun _ q => ?_, fun _ => by simp; omega, by simp; omega, by simp⟩
        · have := t1 e1 q
          simp [maxI, this]
        · have := t2 e1 q
          simp [maxI]; split <;> omega
    · rw [if_pos e1]
      exact ⟨h0, fun _ => rfl, fun q => (e1 q).elim, fun q => (e1 q).elim, u0, Nat.le_succ_of_le ql, Nat.zero_le _⟩
  | take x =>
    have := without_len S.q x
    obtain ⟨x0, x1⟩ := (show 0 ≤ x ∧ x < n from hd)
    exact ⟨by simp [done]; omega, fun _ => rfl, fun q => by simp [done] at q; omega, fun q => by simp [done] at q; omega, fun _ => by simp [done]; omega, by simp [done]; omega, by simp [done]; omega⟩
  | renew =>
    have e1 : S.h ≠ -1 := fun z => by simp [can, canRenew, z] at hc
    refine ⟨h0, fun _ => rfl, fun q => (e1 q).elim, fun q => (e1 q).elim, fun hb => ?_, Nat.le_succ_of_le ql, Nat.le_succ_of_le rl⟩
    have hcc : ¬ (S.h = -1 ∨ S.l < 0 ∨ (U.b ≤ S.u ∧ U.b ≠ 3)) := fun z => by simp [can, canRenew, z] at hc
    show (if U.b ≠ 3 then S.u + 1 else 0) ≤ U.b
    rw [if_pos hb]
    have : ¬ U.b ≤ S.u := fun z => hcc (.inr (.inr ⟨z, hb⟩))
    omega
  | back =>
    refine ⟨by simp [done], fun q => (q rfl).elim, fun _ q => ?_, fun _ q => ?_, fun _ => by simp [done]; omega, Nat.le_succ_of_le ql, ?_⟩
    · simp [done] at q; simp [done, fDays, q]
    · simp [done] at q; simp [done, fDays, q]; omega
    · simp [done]; split
      · rw [srt_len]; simp; omega
      · simp
  | ask x =>
    refine ⟨h0, fun q => ?_, fun q1 q2 => ?_, fun q1 q2 => ?_, u0, ?_, Nat.le_succ_of_le rl⟩
    · have := t0 q
      have q' : ¬ S.h = -1 := q
      simp [done, q', this]
    · simp [done] at q2
    · show 1 ≤ if S.h = -1 ∧ S.q = [] then U.f else S.t
      have q1' : S.h = -1 := q1
      by_cases e : S.q = []
      · rw [if_pos ⟨q1', e⟩]; omega
      · rw [if_neg (fun z => e z.2)]; exact t2 q1' e
    · simp [done]; omega
  | drop x =>
    have wl := without_len S.q x
    have hx : x ∈ S.q := by simpa [can] using hc
    have hne : S.q ≠ [] := fun z => by rw [z] at hx; cases hx
    refine ⟨h0, fun q => ?_, fun q1 q2 => ?_, fun q1 q2 => ?_, u0, by simp [done]; omega, Nat.le_succ_of_le rl⟩
    · have := t0 q
      have q' : ¬ S.h = -1 := q
      simp [done, fDays, q', this]
    · have q1' : S.h = -1 := q1
      have q2' : without S.q x = [] := q2
      have e : S.q.head? = some x := by
        obtain ⟨a, r, hq2⟩ : ∃ a r, S.q = a :: r := List.exists_cons_of_ne_nil hne
        rw [hq2] at q2' ⊢
        by_cases e : a = x
        · rw [e]; rfl
        · simp [without, e] at q2'
      simp [done, e, fDays, q2']
    · have q1' : S.h = -1 := q1
      have q2' : without S.q x ≠ [] := q2
      have := t2 q1' hne
      show 1 ≤ if S.q.head? = some x then fDays U S.h (without S.q x) else S.t
      split
      · simp [fDays, q1', q2']; omega
      · omega
end RL

namespace RL
open PySem PySem.Spec PyProof.Rows L2
theorem ix_last {xs : List PyData} {y : PyData} : idxD (.list (xs ++ [y])) (.int (-1)) = some y := by
  show (ixN (xs ++ [y]).length (-1)).bind (fun j => (xs ++ [y])[j]?) = _
  unfold ixN
  have h1 : ¬ (0 : Int) ≤ -1 := by omega
  have h2 : -(((xs ++ [y]).length : Nat) : Int) ≤ -1 := by simp; omega
  rw [if_neg h1, if_pos h2]
  have e : ((-1 : Int) + ((xs ++ [y]).length : Nat)).toNat = xs.length := by simp; omega
  show (xs ++ [y])[((-1 : Int) + ((xs ++ [y]).length : Nat)).toNat]? = _
  rw [e, List.getElem?_concat_length]
theorem noL_iT (l : List Int) : noL (iT l) = true := by
  show noLs (l.map .int) = true
  induction l with
  | nil => rfl
  | cons a r ih => exact ih
theorem noL_Sd (S : Sd) : noL S.d = true := by
  simp [Sd.d, noL, noLs, noL_iT]
def trail (U : Ru) : Sd → List De → List Sd
  | _, [] => []
  | S, d :: ds => done U S d :: trail U (done U S d) ds
def ends (U : Ru) : Sd → List De → Sd
  | S, [] => S
  | S, d :: ds => ends U (done U S d) ds
def path (U : Ru) : Sd → List De → Bool
  | _, [] => true
  | S, d :: ds => can U S d && path U (done U S d) ds
theorem ends_ok {U : Ru} (hU : U.Ok) {n : Nat} : ∀ {ds : List De} {S : Sd} {k : Nat}, S.Ok U k → (∀ d ∈ ds, d.inn n) → path U S ds = true → (ends U S ds).Ok U (k + ds.length)
  | [], _, _, h, _, _ => h
  | d :: ds, S, k, h, hi, hp => by
    obtain ⟨h1, h2⟩ := Bool.and_eq_true_iff.mp hp
    have := ends_ok hU (done_ok hU h (hi d List.mem_cons_self) h1) (fun e he => hi e (List.mem_cons_of_mem _ he)) h2
    rw [List.length_cons, show k + (ds.length + 1) = k + 1 + ds.length by omega]
    exact this
def ledBody : Rho → O := (sSeq (sIf (gBorT 3 (gNotT (gTest (gCall 4 (gCons (getV 0) (gCons (getV 1) (gCons (gIx (getV 3) (gNeg (gK (.int 1)))) (gCons (getV 4) gNil)))) m_is_deed)))) (sRet (gK .none)) sNil) (sApp 3 (gCall 3 (gCons (getV 0) (gCons (gIx (getV 3) (gNeg (gK (.int 1)))) (gCons (getV 4) gNil))) m_done)))
theorem ev_ledBody {U : Ru} {S : Sd} {n k : Nat} {d : De} {pre : List Sd} {row : PyData} (hn : n = 2 ∨ n = 3) (hd : d.inn n) (hS : S.Ok U k) (hk : k ≤ 200) (hl : pre.length ≤ 1000) :
    ledBody [.d U.d, .d (.int n), .d row, .o (pre.map Sd.d ++ [S.d]), .d d.d] = if can U S d = true then .nx [.d U.d, .d (.int n), .d row, .o ((pre ++ [S]).map Sd.d ++ [(done U S d).d]), .d d.d] else .rt .none := by
  have e1 := ev_is_deed (U := U) (S := S) hn hd
  have hz : (pre.map Sd.d ++ [S.d]).length < sizeLine := by rw [sizeLine_eq]; simp; omega
  have ng : negD (.int 1) = .ok (.int (-1)) := rfl
  have hT : gBorT 3 (gNotT (gTest (gCall 4 (gCons (getV 0) (gCons (getV 1) (gCons (gIx (getV 3) (gNeg (gK (.int 1)))) (gCons (getV 4) gNil)))) m_is_deed))) [.d U.d, .d (.int n), .d row, .o (pre.map Sd.d ++ [S.d]), .d d.d] = .ok (!can U S d) := by
    show ((gNotT (gTest (gCall 4 (gCons (getV 0) (gCons (getV 1) (gCons (gIx (getV 3) (gNeg (gK (.int 1)))) (gCons (getV 4) gNil)))) m_is_deed))) [.d U.d, .d (.int n), .d row, .d (.list (pre.map Sd.d ++ [S.d])), .d d.d]).calm = _
    simp [ng, ix_last, e1]
  unfold ledBody
  rw [e_sSeq, e_sIf, hT, R.to_ok]
  cases hc : can U S d with
  | false => rfl
  | true =>
    have hdrop : ∀ x, d = .drop x → S.q ≠ [] := fun x e z => by
      subst e
      simp [can, z] at hc
    have e2 := ev_done (U := U) (S := S) (d := d) (by have := hS.ql; omega) (by have := hS.rl; omega) hdrop
    show sApp 3 _ [.d U.d, .d (.int n), .d row, .o (pre.map Sd.d ++ [S.d]), .d d.d] = _
    show ((gCall 3 (gCons (getV 0) (gCons (gIx (getV 3) (gNeg (gK (.int 1)))) (gCons (getV 4) gNil))) m_done [.d U.d, .d (.int n), .d row, .d (.list (pre.map Sd.d ++ [S.d])), .d d.d]).calm.to _ fun x => if noL x = true ∧ (pre.map Sd.d ++ [S.d]).length < sizeLine then .nx [.d U.d, .d (.int n), .d row, .o ((pre.map Sd.d ++ [S.d]) ++ [x]), .d d.d] else .stuck) = _
    have e3 : gCall 3 (gCons (getV 0) (gCons (gIx (getV 3) (gNeg (gK (.int 1)))) (gCons (getV 4) gNil))) m_done [.d U.d, .d (.int n), .d row, .d (.list (pre.map Sd.d ++ [S.d])), .d d.d] = .ok (done U S d).d := by
      simp [ng, ix_last, e2]
    rw [e3, e_calm1, R.to_ok, if_pos ⟨noL_Sd _, hz⟩, if_pos rfl, List.map_append]
    rfl
end RL

namespace RL
open PySem PySem.Spec PyProof.Rows L2
theorem led_for {U : Ru} (hU : U.Ok) {n : Nat} (hn : n = 2 ∨ n = 3) {row : PyData} : ∀ {ds : List De} {S : Sd} {k : Nat} {pre : List Sd} {x : Sl}, S.Ok U k → k + ds.length ≤ 200 → pre.length ≤ k → (∀ d ∈ ds, d.inn n) →
    (path U S ds = true → ∃ y, forD (.one 4) ledBody (ds.map De.d) [.d U.d, .d (.int n), .d row, .o (pre.map Sd.d ++ [S.d]), x] = .nx [.d U.d, .d (.int n), .d row, .o ((pre ++ S :: trail U S ds).map Sd.d), y]) ∧
    (path U S ds = false → forD (.one 4) ledBody (ds.map De.d) [.d U.d, .d (.int n), .d row, .o (pre.map Sd.d ++ [S.d]), x] = .rt .none)
  | [], S, k, pre, x, _, _, _, _ => ⟨fun _ => ⟨x, by simp [trail]⟩, fun h => by cases h⟩
  | d :: ds, S, k, pre, x, hS, hk, hl, hi => by
    have hd := hi d List.mem_cons_self
    have e := ev_ledBody (U := U) (S := S) (pre := pre) (row := row) hn hd hS (by simp at hk; omega) (by simp at hk; omega)
    have e0 : forD (.one 4) ledBody ((d :: ds).map De.d) [.d U.d, .d (.int n), .d row, .o (pre.map Sd.d ++ [S.d]), x] = (ledBody [.d U.d, .d (.int n), .d row, .o (pre.map Sd.d ++ [S.d]), .d d.d]).th (forD (.one 4) ledBody (ds.map De.d)) := rfl
    rw [e0, e]
    cases hc : can U S d with
    | false =>
      refine ⟨fun h => ?_, fun _ => rfl⟩
      have h : (can U S d && path U (done U S d) ds) = true := h
      rw [hc] at h
      cases h
    | true =>
      have hS2 := done_ok hU hS hd hc
      have ih := led_for hU hn (row := row) (ds := ds) (S := done U S d) (k := k + 1) (pre := pre ++ [S]) (x := .d d.d) hS2 (by simp at hk; omega) (by simp; omega) fun e he => hi e (List.mem_cons_of_mem _ he)
      have hp : path U S (d :: ds) = path U (done U S d) ds := by
        show (can U S d && path U (done U S d) ds) = _
        rw [hc]; rfl
      rw [if_pos rfl, O.th_nx, hp]
      refine ⟨fun h => ?_, fun h => ih.2 h⟩
      obtain ⟨y, hy⟩ := ih.1 h
      exact ⟨y, by rw [hy]; simp [trail]⟩
theorem first_d : v_FIRST = first.d := rfl
theorem ev_led {U : Ru} (hU : U.Ok) {n : Nat} (hn : n = 2 ∨ n = 3) {ds : List De} (hl : ds.length ≤ 200) (hi : ∀ d ∈ ds, d.inn n) : m_led [U.d, .int n, .tuple (ds.map De.d)] = .ok (if path U first ds = true then .list ((first :: trail U first ds).map Sd.d) else .none) := by
  have key := led_for hU hn (row := .tuple (ds.map De.d)) (ds := ds) (S := first) (k := 0) (pre := []) (x := .u) (first_ok hU) (by omega) (Nat.le_refl _) hi
  have e0 : g_led (startE N_led [U.d, .int n, .tuple (ds.map De.d)]) = (forD (.one 4) ledBody (ds.map De.d) [.d U.d, .d (.int n), .d (.tuple (ds.map De.d)), .o [first.d], .u]).th (sRel 3 (sRet (getV 3))) := by
    show (sNew 3 (gCons (gK v_FIRST) gNil) [.d U.d, .d (.int n), .d (.tuple (ds.map De.d)), .u, .u]).th (sSeq (sFor (.one 4) (iSeq (getV 2)) ledBody) (sRel 3 (sRet (getV 3)))) = _
    have e1 : sNew 3 (gCons (gK v_FIRST) gNil) [.d U.d, .d (.int n), .d (.tuple (ds.map De.d)), .u, .u] = .nx [.d U.d, .d (.int n), .d (.tuple (ds.map De.d)), .o [first.d], .u] := by
      show (if [v_FIRST].length ≤ sizeLine then O.nx [.d U.d, .d (.int n), .d (.tuple (ds.map De.d)), .o [v_FIRST], .u] else .stuck) = _
      rw [if_pos (by rw [sizeLine_eq]; show 1 ≤ 16777216; omega)]
      rfl
    rw [e1, O.th_nx]
    rfl
  unfold m_led runD
  rw [e0]
  cases hp : path U first ds with
  | true =>
    obtain ⟨y, hy⟩ := key.1 hp
    have hy : forD (.one 4) ledBody (ds.map De.d) [.d U.d, .d (.int n), .d (.tuple (ds.map De.d)), .o [first.d], .u] = .nx [.d U.d, .d (.int n), .d (.tuple (ds.map De.d)), .o ((first :: trail U first ds).map Sd.d), y] := hy
    rw [hy]
    rfl
  | false =>
    have hy : forD (.one 4) ledBody (ds.map De.d) [.d U.d, .d (.int n), .d (.tuple (ds.map De.d)), .o [first.d], .u] = .rt .none := key.2 hp
    rw [hy]
    rfl
theorem trail_ends {U : Ru} : ∀ {ds : List De} {S : Sd}, ∃ pre, S :: trail U S ds = pre ++ [ends U S ds]
  | [], S => ⟨[], rfl⟩
  | d :: ds, S => by
    obtain ⟨pre, h⟩ := trail_ends (U := U) (ds := ds) (S := done U S d)
    exact ⟨S :: pre, by rw [trail, h]; rfl⟩
theorem ix_trail {U : Ru} {S : Sd} {ds : List De} : idxD (.list ((S :: trail U S ds).map Sd.d)) (.int (-1)) = some (ends U S ds).d := by
  obtain ⟨pre, h⟩ := trail_ends (U := U) (ds := ds) (S := S)
  rw [h, List.map_append]
  exact ix_last
end RL

namespace RL
open PySem PySem.Spec PyProof.Rows L2
theorem ev_is_rule {U : Ru} (hU : U.Ok) : m_is_rule [U.d] = .ok (.bool true) := by
  obtain ⟨a1, a2, b1, b2, c1, c2, f1, f2⟩ := hU
  have p0 : m_is_part [.int 0, .int U.a] = .ok (.bool true) := by
    have : U.a = 1 ∨ U.a = 2 ∨ U.a = 3 := by omega
    rcases this with e | e | e <;> rw [e] <;> kernel_rfl
  have p1 : m_is_part [.int 1, .int U.b] = .ok (.bool true) := by
    have : U.b = 0 ∨ U.b = 1 ∨ U.b = 2 ∨ U.b = 3 := by omega
    rcases this with e | e | e | e <;> rw [e] <;> kernel_rfl
  have p2 : m_is_part [.int 2, .str (sDue U.due)] = .ok (.bool true) := by cases U.due <;> kernel_rfl
  have p3 : m_is_part [.int 3, .bool U.bar] = .ok (.bool true) := by cases U.bar <;> kernel_rfl
  have p4 : m_is_part [.int 4, .int U.c] = .ok (.bool true) := by
    have : U.c = 0 ∨ U.c = 1 ∨ U.c = 2 := by omega
    rcases this with e | e | e <;> rw [e] <;> kernel_rfl
  have p5 : m_is_part [.int 5, .str (sAsk U.asked)] = .ok (.bool true) := by cases U.asked <;> kernel_rfl
  have p6 : m_is_part [.int 6, .int U.f] = .ok (.bool true) := by
    have : U.f = 1 ∨ U.f = 2 := by omega
    rcases this with e | e <;> rw [e] <;> kernel_rfl
  have p7 : m_is_part [.int 7, .str (sFin U.fin)] = .ok (.bool true) := by cases U.fin <;> kernel_rfl
  have p8 : m_is_part [.int 8, .bool U.rest] = .ok (.bool true) := by cases U.rest <;> kernel_rfl
  have hz : (9 : Nat) ≤ sizeLine := by rw [sizeLine_eq]; omega
  have et : m_is_tuple [U.d, .int 9, .int 9] = .ok (.bool true) := by unfold Ru.d; rw [ev_tup]; rfl
  have ea : asSeq U.d = some [.int U.a, .int U.b, .str (sDue U.due), .bool U.bar, .int U.c, .str (sAsk U.asked), .int U.f, .str (sFin U.fin), .bool U.rest] := rfl
  have al : allD [.list [.bool true, .bool true, .bool true, .bool true, .bool true, .bool true, .bool true, .bool true, .bool true]] = some (.bool true) := rfl
  simp [m_is_rule, runD, g_is_rule, startE, et, ea, enumL, hz, wipeE, lcD, p0, p1, p2, p3, p4, p5, p6, p7, p8, noL, al]
theorem ev_need_both {U : Ru} (hU : U.Ok) {n : Nat} (hn : n = 2 ∨ n = 3) : m_need_both [U.d, .int n] = .ok .none := by
  have e1 : m_need_rule [U.d] = .ok .none := by simp [m_need_rule, runD, g_need_rule, startE, ev_is_rule hU]
  have h1 : decide ((2 : Int) ≤ (n : Int)) = true := decide_eq_true (by omega)
  have h2 : decide ((n : Int) ≤ 3) = true := decide_eq_true (by omega)
  simp [m_need_both, runD, g_need_both, startE, e1, ev_from, h1, h2]
theorem ev_has_row {U : Ru} (hU : U.Ok) {n : Nat} (hn : n = 2 ∨ n = 3) {ds : List De} (hl : ds.length ≤ 60) (hi : ∀ d ∈ ds, d.inn n) : m_has_row [U.d, .int n, .tuple (ds.map De.d)] = .ok (.bool (path U first ds)) := by
  have e1 := ev_led hU hn (ds := ds) (by omega) hi
  have h2 : decide (((ds.map De.d).length : Int) ≤ 60) = true := decide_eq_true (by simp; omega)
  have e3 : v_MOST_DEEDS = .int 60 := rfl
  cases hp : path U first ds
  · rw [hp] at e1
    simp [m_has_row, runD, g_has_row, startE, e3, ev_tup, e1]
    simp at h2
    simp [h2, isNone]
  · rw [hp] at e1
    simp [m_has_row, runD, g_has_row, startE, e3, ev_tup, e1]
    simp at h2
    simp [h2, isNone]
theorem ev_need_row {U : Ru} (hU : U.Ok) {n : Nat} (hn : n = 2 ∨ n = 3) {ds : List De} (hl : ds.length ≤ 60) (hi : ∀ d ∈ ds, d.inn n) (hp : path U first ds = true) : m_need_row [U.d, .int n, .tuple (ds.map De.d)] = .ok .none := by
  have e1 := ev_has_row hU hn hl hi
  rw [hp] at e1
  simp [m_need_row, runD, g_need_row, startE, e1]
theorem ev_possible {U : Ru} (hU : U.Ok) {n : Nat} (hn : n = 2 ∨ n = 3) {ds : List De} (hl : ds.length ≤ 60) (hi : ∀ d ∈ ds, d.inn n) (hp : path U first ds = true) : m_possible [U.d, .int n, .tuple (ds.map De.d)] = .ok (.list ((lets U n (ends U first ds)).map De.d)) := by
  have e1 := ev_need_row hU hn hl hi hp
  have e2 := ev_led hU hn (ds := ds) (by omega) hi
  rw [hp, if_pos rfl] at e2
  have ng : negD (.int 1) = .ok (.int (-1)) := rfl
  have e3 := ix_trail (U := U) (S := first) (ds := ds)
  simp only [List.map_cons] at e2 e3
  simp [m_possible, runD, g_possible, startE, ev_need_both hU hn, e1, e2, ng, e3, ev_deeds_at hn]
theorem ev_after {U : Ru} (hU : U.Ok) {n : Nat} (hn : n = 2 ∨ n = 3) {ds : List De} (hl : ds.length ≤ 60) (hi : ∀ d ∈ ds, d.inn n) (hp : path U first ds = true) {v : PyData} {b : Bool} (hv : m_is_deed [U.d, .int n, (ends U first ds).d, v] = .ok (.bool b)) {r : PyData} (hr : b = true → m_done [U.d, (ends U first ds).d, v] = .ok r) : m_after [U.d, .int n, .tuple (ds.map De.d), v] = if b = true then .ok r else .exc "InvalidDeed" := by
  have e1 := ev_need_row hU hn hl hi hp
  have e2 := ev_led hU hn (ds := ds) (by omega) hi
  rw [hp, if_pos rfl] at e2
  have ng : negD (.int 1) = .ok (.int (-1)) := rfl
  have e3 := ix_trail (U := U) (S := first) (ds := ds)
  simp only [List.map_cons] at e2 e3
  cases b with
  | true =>
    have hr := hr rfl
    simp [m_after, runD, g_after, startE, ev_need_both hU hn, e1, e2, ng, e3, hv, hr]
  | false =>
    simp [m_after, runD, g_after, startE, ev_need_both hU hn, e1, e2, ng, e3, hv]
end RL

namespace RL
open PySem PySem.Spec PyProof.Rows L2
theorem opt_noL {b : Bool} {S : Sd} : noL (opt b S) = true := by
  unfold opt
  cases b
  · rfl
  · exact noL_Sd S
def lledBody : Rho → O := (sSeq (sSet 5 (gBor 3 (gCall 4 (gCons (getV 0) (gCons (getV 1) (gCons (gIx (getV 3) (gNeg (gK (.int 1)))) (gCons (getV 4) gNil)))) m_law_done))) (sSeq (sApp 3 (getV 5)) (sIf (gTest (gIsN (getV 5))) (sRel 3 (sRet (getV 3))) sNil)))
theorem isNone_Sd {S : Sd} : isNone S.d = false := rfl
theorem ev_lledBody {U : Ru} (hU : U.Ok) {S : Sd} {n k : Nat} {d : De} {pre : List Sd} {row : PyData} {x : Sl} (hS : S.Ok U k) (hk : k ≤ 200) (hl : pre.length ≤ 1000) (hc : can U S d = true) :
    lledBody [.d U.d, .d (.int n), .d row, .o (pre.map Sd.d ++ [S.d]), .d d.d, x] = .nx [.d U.d, .d (.int n), .d row, .o ((pre ++ [S]).map Sd.d ++ [(done U S d).d]), .d d.d, .d (done U S d).d] := by
  have e1 := ev_law_done (n := n) (d := d) hU hS hk
  rw [hc] at e1
  have e1 : m_law_done [U.d, .int n, S.d, d.d] = .ok (done U S d).d := e1
  have hz : (pre.map Sd.d ++ [S.d]).length < sizeLine := by rw [sizeLine_eq]; simp; omega
  have ng : negD (.int 1) = .ok (.int (-1)) := rfl
  have hB : gBor 3 (gCall 4 (gCons (getV 0) (gCons (getV 1) (gCons (gIx (getV 3) (gNeg (gK (.int 1)))) (gCons (getV 4) gNil)))) m_law_done) [.d U.d, .d (.int n), .d row, .o (pre.map Sd.d ++ [S.d]), .d d.d, x] = .ok (done U S d).d := by
    show ((gCall 4 (gCons (getV 0) (gCons (getV 1) (gCons (gIx (getV 3) (gNeg (gK (.int 1)))) (gCons (getV 4) gNil)))) m_law_done [.d U.d, .d (.int n), .d row, .d (.list (pre.map Sd.d ++ [S.d])), .d d.d, x]).calm.bd fun d => if noL d = true then R.ok d else .stuck) = _
    have : gCall 4 (gCons (getV 0) (gCons (getV 1) (gCons (gIx (getV 3) (gNeg (gK (.int 1)))) (gCons (getV 4) gNil)))) m_law_done [.d U.d, .d (.int n), .d row, .d (.list (pre.map Sd.d ++ [S.d])), .d d.d, x] = .ok (done U S d).d := by
      simp [ng, ix_last, e1]
    rw [this, e_calm1, R.bd_ok, if_pos (noL_Sd _)]
  have hA : sApp 3 (getV 5) [.d U.d, .d (.int n), .d row, .o (pre.map Sd.d ++ [S.d]), .d d.d, .d (done U S d).d] = .nx [.d U.d, .d (.int n), .d row, .o ((pre.map Sd.d ++ [S.d]) ++ [(done U S d).d]), .d d.d, .d (done U S d).d] := by
    show (if noL (done U S d).d = true ∧ (pre.map Sd.d ++ [S.d]).length < sizeLine then O.nx [.d U.d, .d (.int n), .d row, .o ((pre.map Sd.d ++ [S.d]) ++ [(done U S d).d]), .d d.d, .d (done U S d).d] else .stuck) = _
    rw [if_pos ⟨noL_Sd _, hz⟩]
  unfold lledBody
  rw [e_sSeq, e_sSet, hB, R.to_ok, O.th_nx]
  show sSeq (sApp 3 (getV 5)) _ [.d U.d, .d (.int n), .d row, .o (pre.map Sd.d ++ [S.d]), .d d.d, .d (done U S d).d] = _
  rw [e_sSeq, hA, O.th_nx, List.map_append]
  rfl
theorem lled_for {U : Ru} (hU : U.Ok) {n : Nat} {row : PyData} : ∀ {ds : List De} {S : Sd} {k : Nat} {pre : List Sd} {x y : Sl}, S.Ok U k → k + ds.length ≤ 200 → pre.length ≤ k → (∀ d ∈ ds, d.inn n) → path U S ds = true →
    ∃ z w, forD (.one 4) lledBody (ds.map De.d) [.d U.d, .d (.int n), .d row, .o (pre.map Sd.d ++ [S.d]), x, y] = .nx [.d U.d, .d (.int n), .d row, .o ((pre ++ S :: trail U S ds).map Sd.d), z, w]
  | [], S, k, pre, x, y, _, _, _, _, _ => ⟨x, y, by simp [trail]⟩
  | d :: ds, S, k, pre, x, y, hS, hk, hl, hi, hp => by
    have hd := hi d List.mem_cons_self
    obtain ⟨hc, hp2⟩ := Bool.and_eq_true_iff.mp hp
    have e := ev_lledBody (U := U) (S := S) (n := n) (d := d) (pre := pre) (row := row) (x := y) hU hS (by simp at hk; omega) (by simp at hk; omega) hc
    have e0 : forD (.one 4) lledBody ((d :: ds).map De.d) [.d U.d, .d (.int n), .d row, .o (pre.map Sd.d ++ [S.d]), x, y] = (lledBody [.d U.d, .d (.int n), .d row, .o (pre.map Sd.d ++ [S.d]), .d d.d, y]).th (forD (.one 4) lledBody (ds.map De.d)) := rfl
    have hS2 := done_ok hU hS hd hc
    obtain ⟨z, w, hy⟩ := lled_for hU (n := n) (row := row) (ds := ds) (S := done U S d) (k := k + 1) (pre := pre ++ [S]) (x := .d d.d) (y := .d (done U S d).d) hS2 (by simp at hk; omega) (by simp; omega) (fun e he => hi e (List.mem_cons_of_mem _ he)) hp2
    exact ⟨z, w, by rw [e0, e, O.th_nx, hy]; simp [trail]⟩
theorem ev_law_led {U : Ru} (hU : U.Ok) {n : Nat} {ds : List De} (hl : ds.length ≤ 200) (hi : ∀ d ∈ ds, d.inn n) (hp : path U first ds = true) : m_law_led [U.d, .int n, .tuple (ds.map De.d)] = .ok (.list ((first :: trail U first ds).map Sd.d)) := by
  obtain ⟨z, w, hy⟩ := lled_for hU (n := n) (row := .tuple (ds.map De.d)) (ds := ds) (S := first) (k := 0) (pre := []) (x := .u) (y := .u) (first_ok hU) (by omega) (Nat.le_refl _) hi hp
  have e0 : g_law_led (startE N_law_led [U.d, .int n, .tuple (ds.map De.d)]) = (forD (.one 4) lledBody (ds.map De.d) [.d U.d, .d (.int n), .d (.tuple (ds.map De.d)), .o [first.d], .u, .u]).th (sRel 3 (sRet (getV 3))) := by
    show (sNew 3 (gCons (gCall0 m_law_begun) gNil) [.d U.d, .d (.int n), .d (.tuple (ds.map De.d)), .u, .u, .u]).th (sSeq (sFor (.one 4) (iSeq (getV 2)) lledBody) (sRel 3 (sRet (getV 3)))) = _
    have e1 : sNew 3 (gCons (gCall0 m_law_begun) gNil) [.d U.d, .d (.int n), .d (.tuple (ds.map De.d)), .u, .u, .u] = .nx [.d U.d, .d (.int n), .d (.tuple (ds.map De.d)), .o [first.d], .u, .u] := by
      show (((m_law_begun []).bd fun x => R.ok [x]).to _ fun l => if l.length ≤ sizeLine then O.nx [.d U.d, .d (.int n), .d (.tuple (ds.map De.d)), .o l, .u, .u] else .stuck) = _
      rw [ev_begun, R.bd_ok, R.to_ok, if_pos (by rw [sizeLine_eq]; show 1 ≤ 16777216; omega)]
      rfl
    rw [e1, O.th_nx]
    rfl
  unfold m_law_led runD
  rw [e0]
  have hy : forD (.one 4) lledBody (ds.map De.d) [.d U.d, .d (.int n), .d (.tuple (ds.map De.d)), .o [first.d], .u, .u] = .nx [.d U.d, .d (.int n), .d (.tuple (ds.map De.d)), .o ((first :: trail U first ds).map Sd.d), z, w] := hy
  rw [hy]
  rfl
mutual
theorem eqv_refl : ∀ {n : Nat} {d : PyData}, shN n d = true → PyData.eqv d d = true
  | _, .none, _ => rfl
  | _, .bool b, _ => by simp [PyData.eqv]
  | _, .int i, _ => by simp [PyData.eqv]
  | _, .str x, _ => by simp [PyData.eqv]
  | 0, .list ds, h => by cases h
  | 0, .tuple ds, h => by cases h
  | n + 1, .list ds, h => by
    show PyData.eqvAll ds ds = true
    exact eqvAll_refl h
  | n + 1, .tuple ds, h => by
    show PyData.eqvAll ds ds = true
    exact eqvAll_refl h
  | 0, .dict ds, h => by cases h
  | n + 1, .dict ds, h => by cases h
theorem eqvAll_refl : ∀ {n : Nat} {ds : List PyData}, ds.all (shN n) = true → PyData.eqvAll ds ds = true
  | _, [], _ => rfl
  | n, d :: ds, h => by
    obtain ⟨h1, h2⟩ := Bool.and_eq_true_iff.mp h
    show (PyData.eqv d d && PyData.eqvAll ds ds) = true
    rw [eqv_refl h1, eqvAll_refl h2]; rfl
end
theorem sh_iT (l : List Int) : shN 1 (iT l) = true := List.all_eq_true.mpr fun x hx => by
  obtain ⟨i, _, rfl⟩ := List.mem_map.mp hx
  rfl
theorem sh_Sd (S : Sd) : shN 2 S.d = true := by
  show (shN 1 (.int S.h) && (shN 1 (.int S.l) && (shN 1 (.int S.u) && (shN 1 (.int S.g) && (shN 1 (iT S.q) && (shN 1 (.int S.t) && (shN 1 (iT S.r) && true))))))) = true
  rw [sh_iT, sh_iT]; rfl
theorem ne_Sd (S : Sd) : neD S.d S.d = some false := by
  rw [ne_of' (isS_of (sh_Sd S)) (isS_of (sh_Sd S)), eqv_refl (sh_Sd S)]; rfl
theorem eq_Sd (S : Sd) : eqD S.d S.d = some true := by
  rw [eq_of (isS_of (sh_Sd S)) (isS_of (sh_Sd S)), eqv_refl (sh_Sd S)]
theorem sh_Des (l : List De) : shN 2 (.list (l.map De.d)) = true := List.all_eq_true.mpr fun x hx => by
  obtain ⟨d, _, rfl⟩ := List.mem_map.mp hx
  cases d <;> kernel_rfl
theorem eq_Des (l : List De) : eqD (.list (l.map De.d)) (.list (l.map De.d)) = some true := by
  rw [eq_of (isS_of (sh_Des l)) (isS_of (sh_Des l)), eqv_refl (sh_Des l)]
theorem noL_De (d : De) : noL d.d = true := by cases d <;> kernel_rfl
theorem gCall_ev {k : Nat} {gs : Rho → R (List PyData)} {m : List PyData → R PyData} {ρ : Rho} {ds : List PyData} {r : R PyData} (h : gs ρ = .ok ds) (hl : ds.length = k) (e : m ds = r) : gCall k gs m ρ = r := by
  unfold gCall
  rw [h, R.bd_ok, if_pos hl, e]
theorem allDe_len {n : Nat} (hn : n = 2 ∨ n = 3) : (allDe n).length ≤ 12 := by rcases hn with rfl | rfl <;> decide
/-! rows, drawn -/
def RowD (U : Ru) (n most : Nat) (d : PyData) : Prop := ∃ ds : List De, d = .tuple (ds.map De.d) ∧ ds.length ≤ most ∧ (∀ e ∈ ds, e.inn n) ∧ path U first ds = true
end RL

namespace RL
open PySem PySem.Spec PyProof.Rows L2
theorem SatO.forS {T : Tg} {gi : Rho → R (List PyData)} {gb : Rho → O} {ρ : Rho} {N : Rho → Prop} {Q : PyData → Prop} (h : Sat (gi ρ) fun ds => SatO (forD T gb ds ρ) N Q) : SatO (sFor T gi gb ρ) N Q := Sat.to h
theorem ev_draw {n : Nat} (h0 : 0 < n) (h1 : n < 1000000) : m_draw [.int n] = .ask n fun i => .ok (.int i) := by
  show (if 0 < (n : Int) ∧ (n : Int) < 1073741824 then R.ask (n : Int).toNat fun i => R.ok (PyData.int i) else .stuck) = _
  rw [if_pos ⟨by omega, by omega⟩, Int.toNat_natCast]
theorem sat_choice {xs : List PyData} {Q : PyData → Prop} (h0 : xs ≠ []) (hl : xs.length < 1000000) (h : ∀ x ∈ xs, Q x) : Sat (m_law_choice [.list xs]) Q := by
  have hp : 0 < xs.length := List.length_pos_iff.mpr h0
  have e : m_law_choice [.list xs] = .ask xs.length fun i => (R.of (idxD (.list xs) (.int i))) := by
    show (((((R.of (lenD [.list xs])).bd fun x => R.ok [x]).bd fun ds => if ds.length = 1 then m_draw ds else .stuck).bd fun y => R.of (idxD (.list xs) y)).to _ .rt).done = _
    rw [d_lenL]
    simp only [R.of_some, R.bd_ok, List.length_cons, List.length_nil, if_pos, ev_draw hp hl, R.bd_ask, R.to_ask, e_done4]
    congr 1
    funext i
    cases idxD (.list xs) (.int i) <;> rfl
  rw [e]
  refine .ask fun i hi => ?_
  show Sat (R.of (idxD (.list xs) (.int i))) Q
  rw [d_ixL hi]
  exact .ok (h _ (List.getElem_mem hi))
def vals : List (List PyData) := [[.int 1, .int 2, .int 3], [.int 0, .int 1, .int 2, .int 3], [.str "due", .str "today"], [.bool false, .bool true], [.int 0, .int 1, .int 2], [.str "asked", .str "open"], [.int 1, .int 2], [.str "end", .str "out"], [.bool false, .bool true]]
theorem ev_values : m_law_values [] = .ok (.list (vals.map .list)) := by kernel_rfl
/-- a rule's parts, drawn -/
def RuleD (d : PyData) : Prop := ∃ ps, d = .tuple ps ∧ Paired (fun l p => p ∈ l) vals ps
theorem sat_rule : Sat (m_law_rule []) RuleD := by
  have h := sat_lc1 (T := .one 1) (te := gCallS 0 1 (gCons (getV 1) gNil) m_law_choice) (ρ := [.s, .u]) (P := fun l p => ∃ xs, l = .list xs ∧ p ∈ xs) (ds := vals.map .list) fun d hd => by
    obtain ⟨l, h1, rfl⟩ := List.mem_map.mp hd
    refine ⟨_, rfl, ?_⟩
    have key : vals.all (fun l => decide (l ≠ [] ∧ l.length < 1000000) && l.all noL) = true := by decide +kernel
    have k := List.all_eq_true.mp key l h1
    obtain ⟨k1, k2⟩ := Bool.and_eq_true_iff.mp k
    have k1 := of_decide_eq_true k1
    show Sat (m_law_choice [.list l]) _
    exact sat_choice k1.1 k1.2 fun x hx => ⟨List.all_eq_true.mp k2 x hx, l, rfl, hx⟩
  have e : m_law_rule [] = ((lcD (.one 1) gYes (gCallS 0 1 (gCons (getV 1) gNil) m_law_choice) [.s, .u] (vals.map .list)).bd fun ys => .ok (.tuple ys)) := by
    have hz : (vals.map PyData.list).length ≤ sizeLine := by rw [sizeLine_eq]; decide
    show ((((((m_law_values []).bd fun x => R.of (asSeq x)).bd fun ds => if ds.length ≤ sizeLine then (lcD (.one 1) gYes (gCallS 0 1 (gCons (getV 1) gNil) m_law_choice) [.s, .u] ds).bd fun ys => .ok (.list ys) else .stuck).bd fun x => R.ok [x]).bd fun xs => R.of (tupleD xs)).to _ .rt).done = _
    rw [ev_values]
    simp only [R.bd_ok, d_asSL, R.of_some, if_pos hz, R.bd_bd, d_tupL]
    generalize lcD _ _ _ _ _ = m
    induction m with
    | ok a => rfl
    | exc n => rfl
    | stuck => rfl
    | ask n k ih => exact congrArg (R.ask n) (funext ih)
  rw [e]
  refine Sat.bd (h.imp fun ys hy => .ok ⟨ys, rfl, ?_⟩)
  have key : ∀ {os : List (List PyData)} {ys : List PyData}, Paired (fun l p => ∃ xs, l = PyData.list xs ∧ p ∈ xs) (os.map PyData.list) ys → Paired (fun l p => p ∈ l) os ys := by
    intro os
    induction os with
    | nil => intro ys h; cases h; exact .nil
    | cons o r ih =>
      intro ys h
      cases h with
      | cons a b =>
        obtain ⟨xs, e, hx⟩ := a
        cases e
        exact .cons hx (ih b)
  exact key hy

theorem rule_ru {d : PyData} (h : RuleD d) : ∃ U : Ru, U.Ok ∧ d = U.d := by
  obtain ⟨ps, rfl, h⟩ := h
  cases h with | cons h0 h => cases h with | cons h1 h => cases h with | cons h2 h => cases h with | cons h3 h => cases h with | cons h4 h => cases h with | cons h5 h => cases h with | cons h6 h => cases h with | cons h7 h => cases h with | cons h8 h =>
    cases h
    rename_i x0 x1 x2 x3 x4 x5 x6 x7 x8
    simp only [List.mem_cons, List.not_mem_nil, or_false] at h0 h1 h2 h3 h4 h5 h6 h7 h8
    have k0 : ∃ a : Int, 1 ≤ a ∧ a ≤ 3 ∧ x0 = PyData.int a := by rcases h0 with e | e | e <;> exact ⟨_, by omega, by omega, e⟩
    have k1 : ∃ a : Int, 0 ≤ a ∧ a ≤ 3 ∧ x1 = PyData.int a := by rcases h1 with e | e | e | e <;> exact ⟨_, by omega, by omega, e⟩
    have k2 : ∃ b : Bool, x2 = PyData.str (sDue b) := by rcases h2 with e | e; exact ⟨true, e⟩; exact ⟨false, e⟩
    have k3 : ∃ b : Bool, x3 = PyData.bool b := by rcases h3 with e | e <;> exact ⟨_, e⟩
    have k4 : ∃ a : Int, 0 ≤ a ∧ a ≤ 2 ∧ x4 = PyData.int a := by rcases h4 with e | e | e <;> exact ⟨_, by omega, by omega, e⟩
    have k5 : ∃ b : Bool, x5 = PyData.str (sAsk b) := by rcases h5 with e | e; exact ⟨true, e⟩; exact ⟨false, e⟩
    have k6 : ∃ a : Int, 1 ≤ a ∧ a ≤ 2 ∧ x6 = PyData.int a := by rcases h6 with e | e <;> exact ⟨_, by omega, by omega, e⟩
    have k7 : ∃ b : Bool, x7 = PyData.str (sFin b) := by rcases h7 with e | e; exact ⟨true, e⟩; exact ⟨false, e⟩
    have k8 : ∃ b : Bool, x8 = PyData.bool b := by rcases h8 with e | e <;> exact ⟨_, e⟩
    obtain ⟨a, a1, a2, rfl⟩ := k0
    obtain ⟨b, b1, b2, rfl⟩ := k1
    obtain ⟨due, rfl⟩ := k2
    obtain ⟨bar, rfl⟩ := k3
    obtain ⟨c, c1, c2, rfl⟩ := k4
    obtain ⟨asked, rfl⟩ := k5
    obtain ⟨f, f1, f2, rfl⟩ := k6
    obtain ⟨fin, rfl⟩ := k7
    obtain ⟨rest, rfl⟩ := k8
    exact ⟨⟨a, b, due, bar, c, asked, f, fin, rest⟩, ⟨a1, a2, b1, b2, c1, c2, f1, f2⟩, rfl⟩
end RL

namespace RL
open PySem PySem.Spec PyProof.Rows L2
theorem path_snoc {U : Ru} {d : De} : ∀ {ds : List De} {S : Sd}, path U S (ds ++ [d]) = (path U S ds && can U (ends U S ds) d)
  | [], S => by simp [path, ends]
  | e :: ds, S => by
    show (can U S e && path U (done U S e) (ds ++ [d])) = ((can U S e && path U (done U S e) ds) && can U (ends U (done U S e) ds) d)
    rw [path_snoc, Bool.and_assoc]
theorem ends_snoc {U : Ru} {d : De} : ∀ {ds : List De} {S : Sd}, ends U S (ds ++ [d]) = done U (ends U S ds) d
  | [], S => rfl
  | e :: ds, S => ends_snoc (ds := ds) (S := done U S e)
def rowBody : Rho → O := (sSeq (sSet 7 (gCallS 0 1 (gCons (gBin .Add (gCall 1 (gCons (getV 2) gNil) m_law_deeds) (gLst (gCons (gTup (gCons (gK (.str "day")) gNil)) (gCons (gTup (gCons (gK (.str "day")) gNil)) (gCons (gTup (gCons (gK (.str "take")) (gCons (gK (.int 0)) gNil))) gNil))))) gNil) m_law_choice)) (sSeq (sSet 8 (gCall 4 (gCons (getV 1) (gCons (getV 2) (gCons (getV 4) (gCons (getV 7) gNil)))) m_law_done)) (sIf (gTest (gNotN (getV 8))) (sPar [4, 5] (gCons (getV 8) (gCons (gBin .Add (getV 5) (gTup (gCons (getV 7) gNil))) gNil))) sNil)))
theorem row_tail {U : Ru} (hU : U.Ok) {n : Nat} {ds : List De} {d : De} {m a b : Sl} (hl : ds.length ≤ 100) (hi : ∀ e ∈ ds, e.inn n) (hp : path U first ds = true) (hd : d.inn n) {Q : PyData → Prop} :
    SatO ((sSeq (sSet 8 (gCall 4 (gCons (getV 1) (gCons (getV 2) (gCons (getV 4) (gCons (getV 7) gNil)))) m_law_done)) (sIf (gTest (gNotN (getV 8))) (sPar [4, 5] (gCons (getV 8) (gCons (gBin .Add (getV 5) (gTup (gCons (getV 7) gNil))) gNil))) sNil)) [.s, .d U.d, .d (.int n), m, .d (ends U first ds).d, .d (.tuple (ds.map De.d)), a, .d d.d, b])
      (fun ρ => ∃ ds' x y z, ds'.length ≤ ds.length + 1 ∧ (∀ e ∈ ds', e.inn n) ∧ path U first ds' = true ∧ ρ = [.s, .d U.d, .d (.int n), m, .d (ends U first ds').d, .d (.tuple (ds'.map De.d)), x, y, z]) Q := by
  have hS := ends_ok hU (n := n) (first_ok hU) hi hp
  have e1 := ev_law_done (n := n) (d := d) hU hS (by omega)
  cases hc : can U (ends U first ds) d with
  | false =>
    rw [hc] at e1
    have e1 : m_law_done [U.d, .int n, (ends U first ds).d, d.d] = .ok .none := e1
    refine SatO.nx (ρ := [.s, .d U.d, .d (.int n), m, .d (ends U first ds).d, .d (.tuple (ds.map De.d)), a, .d d.d, .d .none]) ?_ ⟨ds, _, _, _, Nat.le_succ _, hi, hp, rfl⟩
    simp [e1, isNone]
  | true =>
    rw [hc] at e1
    have e1 : m_law_done [U.d, .int n, (ends U first ds).d, d.d] = .ok (done U (ends U first ds) d).d := e1
    have e2 : addD (.tuple (ds.map De.d)) (.tuple [d.d]) = some (.tuple ((ds ++ [d]).map De.d)) := by
      rw [d_addT (by simp; omega), List.map_append]; rfl
    refine SatO.nx (ρ := [.s, .d U.d, .d (.int n), m, .d (ends U first (ds ++ [d])).d, .d (.tuple ((ds ++ [d]).map De.d)), a, .d d.d, .d (done U (ends U first ds) d).d]) ?_ ⟨ds ++ [d], _, _, _, by simp, fun e he => ?_, by rw [path_snoc, hp, hc]; rfl, rfl⟩
    · rw [ends_snoc]
      simp [e1, isNone_Sd, e2]
    · rcases List.mem_append.mp he with h | h
      · exact hi e h
      · rcases List.mem_cons.mp h with rfl | h
        · exact hd
        · cases h
end RL

namespace RL
open PySem PySem.Spec PyProof.Rows L2
theorem gCallS_ev {k i : Nat} {gs : Rho → R (List PyData)} {m : List PyData → R PyData} {ρ : Rho} {ds : List PyData} (hs : ρ[i]? = some .s) (h : gs ρ = .ok ds) (hl : ds.length = k) : gCallS i k gs m ρ = m ds := by
  unfold gCallS
  rw [hs]
  show (gs ρ).bd _ = _
  rw [h, R.bd_ok, if_pos hl]
theorem sat_rowBody {U : Ru} (hU : U.Ok) {n : Nat} (hn : n = 2 ∨ n = 3) {ds : List De} {m a b c : Sl} (hl : ds.length ≤ 100) (hi : ∀ e ∈ ds, e.inn n) (hp : path U first ds = true) {Q : PyData → Prop} :
    SatO (rowBody [.s, .d U.d, .d (.int n), m, .d (ends U first ds).d, .d (.tuple (ds.map De.d)), a, b, c])
      (fun ρ => ∃ ds' x y z, ds'.length ≤ ds.length + 1 ∧ (∀ e ∈ ds', e.inn n) ∧ path U first ds' = true ∧ ρ = [.s, .d U.d, .d (.int n), m, .d (ends U first ds').d, .d (.tuple (ds'.map De.d)), x, y, z]) Q := by
  have al := allDe_len hn
  have e2 := ev_law_deeds hn
  have e3 : addD (.list ((allDe n).map De.d)) (.list ([De.day, .day, .take 0].map De.d)) = some (.list ((allDe n ++ [De.day, .day, .take 0]).map De.d)) := by
    rw [d_addL (by simp; omega), List.map_append]
  have e9 := gCall_ev (k := 1) (gs := gCons (getV 2) gNil) (m := m_law_deeds) (ρ := [.s, .d U.d, .d (.int n), m, .d (ends U first ds).d, .d (.tuple (ds.map De.d)), a, b, c]) (ds := [.int n]) rfl rfl e2
  have e4 : (gCons (gBin .Add (gCall 1 (gCons (getV 2) gNil) m_law_deeds) (gLst (gCons (gTup (gCons (gK (.str "day")) gNil)) (gCons (gTup (gCons (gK (.str "day")) gNil)) (gCons (gTup (gCons (gK (.str "take")) (gCons (gK (.int 0)) gNil))) gNil))))) gNil) [.s, .d U.d, .d (.int n), m, .d (ends U first ds).d, .d (.tuple (ds.map De.d)), a, b, c] = .ok [.list ((allDe n ++ [De.day, .day, .take 0]).map De.d)] := by
    rw [e_gCons, e_gBin, e9, R.bd_ok]
    show (R.of (addD (.list ((allDe n).map De.d)) (.list ([De.day, .day, .take 0].map De.d)))).bd _ = _
    rw [e3]
    rfl
  unfold rowBody
  refine SatO.seq (SatO.set ?_)
  rw [gCallS_ev (k := 1) (i := 0) (m := m_law_choice) rfl e4 rfl]
  refine sat_choice (by simp) (by simp; omega) fun x hx => ?_
  obtain ⟨d, hd, rfl⟩ := List.mem_map.mp hx
  have hd' : d.inn n := by
    rcases List.mem_append.mp hd with h | h
    · exact mem_allDe.mp h
    · simp only [List.mem_cons, List.not_mem_nil, or_false] at h
      rcases h with rfl | rfl | rfl
      · trivial
      · trivial
      · exact ⟨by omega, by omega⟩
  exact row_tail hU hl hi hp hd'
end RL

namespace RL
open PySem PySem.Spec PyProof.Rows L2
theorem satR1 {g : Rho → R PyData} {ρ : Rho} {P : List PyData → Prop} (h : Sat (g ρ) fun d => ∃ i : Nat, d = .int i ∧ i ≤ 100000 ∧ P (rangeL 0 i)) : Sat (iR1 g ρ) P := by
  unfold iR1
  refine Sat.bd (h.imp fun d ⟨i, e, hi, hP⟩ => ?_)
  subst e
  have z : range1D (.int (i : Int)) = some (rangeL 0 i) := by
    unfold range1D
    rw [d_asI, Option.bind_some, if_pos (by unfold inR; omega), Int.toNat_natCast]
  exact Sat.eq (by rw [z, R.of_some]) hP
theorem sat_row {U : Ru} (hU : U.Ok) {n most : Nat} (hn : n = 2 ∨ n = 3) (hm : most ≤ 60) : Sat (m_law_row [U.d, .int n, .int most]) (RowD U n most) := by
  have e0 : m_law_row [U.d, .int n, .int most] = (g_law_row [.s, .d U.d, .d (.int n), .d (.int most), .u, .u, .u, .u, .u]).done := rfl
  have e1 : g_law_row = sSeq (sPar [4, 5] (gCons (gCall0 m_law_begun) (gCons (gTup gNil) gNil))) (sSeq (sFor (.one 6) (iR1 (gCallS 0 1 (gCons (gBin .Add (getV 3) (gK (.int 1))) gNil) m_law_draw)) rowBody) (sRet (getV 5))) := rfl
  rw [e0, e1]
  refine SatO.done (SatO.seq_nx (ρ' := [.s, .d U.d, .d (.int n), .d (.int most), .d (ends U first []).d, .d (.tuple (([] : List De).map De.d)), .u, .u, .u]) ?_ ?_)
  · simp only [e_sPar, e_gCons, e_gCall0, ev_begun, R.bd_ok, e_gTup, e_gNil, e_lineNil, R.to_ok]
    rfl
  refine SatO.seq (SatO.forS (satR1 ?_))
  rw [gCallS_ev (k := 1) (i := 0) (m := m_law_draw) (ds := [.int ((most + 1 : Nat) : Int)]) rfl rfl rfl]
  have e5 : m_law_draw [.int ((most + 1 : Nat) : Int)] = .ask (most + 1) fun i => .ok (.int i) := ev_draw (by omega) (by omega)
  rw [e5]
  refine .ask fun i hi => .ok ⟨i, rfl, by omega, ?_⟩
  refine ((sat_for (fun j ρ => ∃ ds x y z, ds.length ≤ j ∧ (∀ e ∈ ds, e.inn n) ∧ path U first ds = true ∧ ρ = [.s, .d U.d, .d (.int n), .d (.int most), .d (ends U first ds).d, .d (.tuple (ds.map De.d)), x, y, z]) (fun j d ρ hj ⟨ds, x, y, z, h1, h2, h3, h4⟩ => ?_) ⟨[], _, _, _, Nat.le_refl _, (fun e h => nomatch h), rfl, rfl⟩).imp (fun ρ ⟨ds, x, y, z, h1, h2, h3, h4⟩ => ?_) fun _ h => h)
  · obtain ⟨h5, rfl⟩ := rangeL_get hj
    subst h4
    refine ⟨_, rfl, ?_⟩
    exact (sat_rowBody hU hn (by omega) h2 h3).imp (fun ρ ⟨ds', a, b, c, q1, q2, q3, q4⟩ => ⟨ds', a, b, c, by omega, q2, q3, q4⟩) fun _ h => h
  · subst h4
    rw [rangeL_length] at h1
    exact .rt0 ⟨ds, rfl, by omega, h2, h3⟩
end RL

namespace RL
open PySem PySem.Spec PyProof.Rows L2
theorem notin_Des {v : PyData} (hv : isS v = true) (h : ∀ e : De, PyData.eqv e.d v = false) (l : List De) : inD v (.list (l.map De.d)) = some false := by
  show (if isS v && isS (.list (l.map De.d)) then some ((l.map De.d).any fun z => PyData.eqv z v) else none) = _
  rw [hv, isS_Des]
  have : ((l.map De.d).any fun z => PyData.eqv z v) = false := by
    induction l with
    | nil => rfl
    | cons a r ih => rw [List.map_cons, List.any_cons, ih, h]; rfl
  rw [this]; rfl
/-- a pair of a word and an int that is no deed -/
theorem odd_pair {U : Ru} {S : Sd} {n : Nat} (hn : n = 2 ∨ n = 3) {w : Str} {x : Int} (hw : PyData.strOk w = true) (h : ∀ e : De, PyData.eqv e.d (.tuple [.str w, .int x]) = false) : m_is_deed [U.d, .int n, S.d, .tuple [.str w, .int x]] = .ok (.bool false) := by
  have hs : isS (.tuple [.str w, .int x]) = true := isS_of (n := 1) (by simp [shN, flat, hw])
  have e1 := ev_deeds_at (U := U) (S := S) hn
  have e2 := notin_Des hs h (lets U n S)
  by_cases h1 : 0 ≤ x
  · by_cases h2 : x ≤ (n : Int) - 1
    · simp [m_is_deed, runD, g_is_deed, startE, ev_tup, isTy, ev_from, h1, h2, e1, e2]
    · simp [m_is_deed, runD, g_is_deed, startE, ev_tup, isTy, ev_from, h1, h2]
  · simp [m_is_deed, runD, g_is_deed, startE, ev_tup, isTy, ev_from, h1]
theorem odd_str {U : Ru} {S : Sd} {n : Nat} {w : Str} : m_is_deed [U.d, .int n, S.d, .str w] = .ok (.bool false) := by
  simp [m_is_deed, runD, g_is_deed, startE, m_is_tuple, g_is_tuple, isTy]
theorem odd_list {U : Ru} {S : Sd} {n : Nat} {l : List PyData} : m_is_deed [U.d, .int n, S.d, .list l] = .ok (.bool false) := by
  simp [m_is_deed, runD, g_is_deed, startE, m_is_tuple, g_is_tuple, isTy]
theorem odd_none {U : Ru} {S : Sd} {n : Nat} : m_is_deed [U.d, .int n, S.d, .none] = .ok (.bool false) := by
  simp [m_is_deed, runD, g_is_deed, startE, m_is_tuple, g_is_tuple, isTy]
theorem odd_nil {U : Ru} {S : Sd} {n : Nat} : m_is_deed [U.d, .int n, S.d, .tuple []] = .ok (.bool false) := by
  simp [m_is_deed, runD, g_is_deed, startE, ev_tup]
end RL

namespace RL
open PySem PySem.Spec PyProof.Rows L2
end RL
namespace RL
open PySem PySem.Spec PyProof.Rows L2
abbrev N_law_tried : List Str := ["rule", "readers", "row", "deed", "found"]
def g_law_tried : Rho → O := (sSeq (sSet 4 (gK (.str ""))) (sSeq (sTry (sSet 4 (gCall 4 (gCons (getV 0) (gCons (getV 1) (gCons (getV 2) (gCons (getV 3) gNil)))) m_after)) (("InvalidDeed", fun ρ => ((sSet 4 (gK (.str "deed"))) ρ).cl) :: [])) (sRet (getV 4))))
def m_law_tried : List PyData → R PyData := runD N_law_tried g_law_tried
abbrev N_law_right : List Str := ["rule", "readers", "row", "stand", "due", "deed", "there"]
def g_law_right : Rho → O := (sSeq (sParNew 3 4 (gIx (gCall 3 (gCons (getV 0) (gCons (getV 1) (gCons (getV 2) gNil))) m_law_led) (gNeg (gK (.int 1))))) (sSeq (sFor (.one 5) (iSeq (gCall 1 (gCons (getV 1) gNil) m_law_deeds)) (sSeq (sSet 6 (gCall 4 (gCons (getV 0) (gCons (getV 1) (gCons (getV 3) (gCons (getV 5) gNil)))) m_law_done)) (sSeq (sIf (gTest (gNotN (getV 6))) (sApp 4 (getV 5)) sNil) (sIf (gCmp .NotEq (gCall 4 (gCons (getV 0) (gCons (getV 1) (gCons (getV 2) (gCons (getV 5) gNil)))) m_law_tried) (gIf (gTest (gIsN (getV 6))) (gK (.str "deed")) (getV 6))) (sRet (gK (.bool false))) sNil)))) (sRel 4 (sRet (asV (gCmp .Eq (gCall 3 (gCons (getV 0) (gCons (getV 1) (gCons (getV 2) gNil))) m_possible) (getV 4)))))))
def m_law_right : List PyData → R PyData := runD N_law_right g_law_right
abbrev N_law : List Str := ["script", "k", "source", "rule", "readers", "most", "row", "odds", "odd"]
def g_law : Rho → O := (sSeq (sFor (.one 1) (iR1 (gBin .Add (gK (.int 1)) (gBlt (ints2 minI) (gCons (gBlt lenD (gCons (getV 0) gNil)) (gCons (gK (.int 8)) gNil))))) (sSeq (sSrc 2 (gCons (getV 0) (gCons (getV 1) gNil))) (sSeq (sPar [3, 4] (gCons (gCallS 2 0 gNil m_law_rule) (gCons (gBin .Add (gK (.int 2)) (gCallS 2 1 (gCons (gK (.int 2)) gNil) m_law_draw)) gNil))) (sFor (.one 5) (iSeq (gLst (gCons (gK (.int 4)) (gCons (gK (.int 12)) (gCons (gK (.int 25)) (gCons (gK (.int 40)) gNil)))))) (sSeq (sSet 6 (gCallS 2 3 (gCons (getV 3) (gCons (getV 4) (gCons (getV 5) gNil))) m_law_row)) (sSeq (sIf (gNotT (gTest (gCall 3 (gCons (getV 3) (gCons (getV 4) (gCons (getV 6) gNil))) m_law_right))) (sRet (gK (.bool false))) sNil) (sSeq (sSet 7 (gLst (gCons (gTup (gCons (gK (.str "take")) (gCons (getV 4) gNil))) (gCons (gTup (gCons (gK (.str "ask")) (gCons (gK (.bool true)) gNil))) (gCons (gTup (gCons (gK (.str "day")) (gCons (gK (.int 0)) gNil))) (gCons (gK (.str "day")) (gCons (gLst (gCons (gK (.str "day")) gNil)) (gCons (gTup gNil) (gCons (gK .none) (gCons (gTup (gCons (gK (.str "back")) (gCons (gK (.int 0)) gNil))) (gCons (gTup (gCons (gK (.str "Ask")) (gCons (gK (.int 0)) gNil))) gNil))))))))))) (sFor (.one 8) (iSeq (getV 7)) (sIf (gCmp .NotEq (gCall 4 (gCons (getV 3) (gCons (getV 4) (gCons (getV 6) (gCons (getV 8) gNil)))) m_law_tried) (gK (.str "deed"))) (sRet (gK (.bool false))) sNil))))))))) (sSeq (sSet 3 (gTup (gCons (gK (.int 2)) (gCons (gK (.int 1)) (gCons (gK (.str "due")) (gCons (gK (.bool true)) (gCons (gK (.int 0)) (gCons (gK (.str "asked")) (gCons (gK (.int 1)) (gCons (gK (.str "out")) (gCons (gK (.bool false)) gNil))))))))))) (sSeq (sSet 6 (gTup (gCons (gTup (gCons (gK (.str "ask")) (gCons (gK (.int 0)) gNil))) (gCons (gTup (gCons (gK (.str "ask")) (gCons (gK (.int 1)) gNil))) gNil)))) (sSeq (sIf (gCmp .NotEq (gCall 4 (gCons (getV 3) (gCons (gK (.int 2)) (gCons (getV 6) (gCons (gTup (gCons (gK (.str "day")) gNil)) gNil)))) m_law_tried) (gTup (gCons (gNeg (gK (.int 1))) (gCons (gK (.int 0)) (gCons (gK (.int 0)) (gCons (gK (.int 0)) (gCons (gTup (gCons (gK (.int 1)) gNil)) (gCons (gK (.int 1)) (gCons (gTup gNil) gNil))))))))) (sRet (gK (.bool false))) sNil) (sSeq (sIf (gCmp .NotEq (gCall 4 (gCons (getV 3) (gCons (gK (.int 2)) (gCons (getV 6) (gCons (gTup (gCons (gK (.str "drop")) (gCons (gK (.int 0)) gNil))) gNil)))) m_law_tried) (gTup (gCons (gNeg (gK (.int 1))) (gCons (gK (.int 0)) (gCons (gK (.int 0)) (gCons (gK (.int 0)) (gCons (gTup (gCons (gK (.int 1)) gNil)) (gCons (gK (.int 1)) (gCons (gTup gNil) gNil))))))))) (sRet (gK (.bool false))) sNil) (sRet (asV (gCmp .Eq (gCall 4 (gCons (getV 3) (gCons (gK (.int 2)) (gCons (gTup (gCons (gTup (gCons (gK (.str "take")) (gCons (gK (.int 0)) gNil))) (gCons (gTup (gCons (gK (.str "renew")) gNil)) (gCons (gTup (gCons (gK (.str "ask")) (gCons (gK (.int 1)) gNil))) gNil)))) (gCons (gTup (gCons (gK (.str "day")) gNil)) gNil)))) m_law_tried) (gTup (gCons (gK (.int 0)) (gCons (gK (.int 3)) (gCons (gK (.int 1)) (gCons (gK (.int 3)) (gCons (gTup (gCons (gK (.int 1)) gNil)) (gCons (gK (.int 0)) (gCons (gTup gNil) gNil))))))))))))))))
def m_law : List PyData → R PyData := runD N_law g_law
end RL

namespace RL
open PySem PySem.Spec PyProof.Rows L2
def topS (i : Nat) : Stmt := PySem.Challenge.pw_renewedagain_k02_whole_deeds_one_by_one.main.body.getD i (.Pass ⟨0, 0, 0, 0⟩)
abbrev s_is_from : Stmt := topS 10
theorem sc_is_from : FnScope N_is_from ["value", "low", "high"] (defScope s_is_from) := ⟨rfl, rfl, rfl, by decide +kernel, rfl, by decide +kernel, by decide +kernel⟩
abbrev s_is_tuple : Stmt := topS 11
theorem sc_is_tuple : FnScope N_is_tuple ["value", "low", "high"] (defScope s_is_tuple) := ⟨rfl, rfl, rfl, by decide +kernel, rfl, by decide +kernel, by decide +kernel⟩
abbrev s_is_part : Stmt := topS 12
theorem sc_is_part : FnScope N_is_part ["place", "value"] (defScope s_is_part) := ⟨rfl, rfl, rfl, by decide +kernel, rfl, by decide +kernel, by decide +kernel⟩
abbrev s_is_rule : Stmt := topS 13
theorem sc_is_rule : FnScope N_is_rule ["value"] (defScope s_is_rule) := ⟨rfl, rfl, rfl, by decide +kernel, rfl, by decide +kernel, by decide +kernel⟩
abbrev s_need_rule : Stmt := topS 14
theorem sc_need_rule : FnScope N_need_rule ["value"] (defScope s_need_rule) := ⟨rfl, rfl, rfl, by decide +kernel, rfl, by decide +kernel, by decide +kernel⟩
abbrev s_need_both : Stmt := topS 15
theorem sc_need_both : FnScope N_need_both ["rule", "readers"] (defScope s_need_both) := ⟨rfl, rfl, rfl, by decide +kernel, rfl, by decide +kernel, by decide +kernel⟩
abbrev s_can_take : Stmt := topS 20
theorem sc_can_take : FnScope N_can_take ["rule", "stand", "reader"] (defScope s_can_take) := ⟨rfl, rfl, rfl, by decide +kernel, rfl, by decide +kernel, by decide +kernel⟩
abbrev s_renewed_left : Stmt := topS 22
theorem sc_renewed_left : FnScope N_renewed_left ["rule", "left"] (defScope s_renewed_left) := ⟨rfl, rfl, rfl, by decide +kernel, rfl, by decide +kernel, by decide +kernel⟩
abbrev s_can_renew : Stmt := topS 21
theorem sc_can_renew : FnScope N_can_renew ["rule", "stand"] (defScope s_can_renew) := ⟨rfl, rfl, rfl, by decide +kernel, rfl, by decide +kernel, by decide +kernel⟩
abbrev s_deeds_at : Stmt := topS 23
theorem sc_deeds_at : FnScope N_deeds_at ["rule", "readers", "stand"] (defScope s_deeds_at) := ⟨rfl, rfl, rfl, by decide +kernel, rfl, by decide +kernel, by decide +kernel⟩
abbrev s_called : Stmt := topS 24
theorem sc_called : FnScope N_called ["rule", "left", "queue"] (defScope s_called) := ⟨rfl, rfl, rfl, by decide +kernel, rfl, by decide +kernel, by decide +kernel⟩
abbrev s_fetch_days : Stmt := topS 25
theorem sc_fetch_days : FnScope N_fetch_days ["rule", "holder", "queue"] (defScope s_fetch_days) := ⟨rfl, rfl, rfl, by decide +kernel, rfl, by decide +kernel, by decide +kernel⟩
abbrev s_night : Stmt := topS 26
theorem sc_night : FnScope N_night ["rule", "stand"] (defScope s_night) := ⟨rfl, rfl, rfl, by decide +kernel, rfl, by decide +kernel, by decide +kernel⟩
abbrev s_done : Stmt := topS 27
theorem sc_done : FnScope N_done ["rule", "stand", "deed"] (defScope s_done) := ⟨rfl, rfl, rfl, by decide +kernel, rfl, by decide +kernel, by decide +kernel⟩
abbrev s_is_deed : Stmt := topS 28
theorem sc_is_deed : FnScope N_is_deed ["rule", "readers", "stand", "value"] (defScope s_is_deed) := ⟨rfl, rfl, rfl, by decide +kernel, rfl, by decide +kernel, by decide +kernel⟩
abbrev s_led : Stmt := topS 29
theorem sc_led : FnScope N_led ["rule", "readers", "row"] (defScope s_led) := ⟨rfl, rfl, rfl, by decide +kernel, rfl, by decide +kernel, by decide +kernel⟩
abbrev s_has_row : Stmt := topS 30
theorem sc_has_row : FnScope N_has_row ["rule", "readers", "value"] (defScope s_has_row) := ⟨rfl, rfl, rfl, by decide +kernel, rfl, by decide +kernel, by decide +kernel⟩
abbrev s_need_row : Stmt := topS 31
theorem sc_need_row : FnScope N_need_row ["rule", "readers", "value"] (defScope s_need_row) := ⟨rfl, rfl, rfl, by decide +kernel, rfl, by decide +kernel, by decide +kernel⟩
abbrev s_possible : Stmt := topS 32
theorem sc_possible : FnScope N_possible ["rule", "readers", "row"] (defScope s_possible) := ⟨rfl, rfl, rfl, by decide +kernel, rfl, by decide +kernel, by decide +kernel⟩
abbrev s_after : Stmt := topS 33
theorem sc_after : FnScope N_after ["rule", "readers", "row", "deed"] (defScope s_after) := ⟨rfl, rfl, rfl, by decide +kernel, rfl, by decide +kernel, by decide +kernel⟩
abbrev s_law_source : Stmt := topS 35
theorem sc_law_source : FnScope N_law_source ["script", "k"] (defScope s_law_source) := ⟨rfl, rfl, rfl, by decide +kernel, rfl, by decide +kernel, by decide +kernel⟩
abbrev s_law_draw : Stmt := topS 36
theorem sc_law_draw : FnScope N_law_draw ["source", "many"] (defScope s_law_draw) := ⟨rfl, rfl, rfl, by decide +kernel, rfl, by decide +kernel, by decide +kernel⟩
abbrev s_law_choice : Stmt := topS 37
theorem sc_law_choice : FnScope N_law_choice ["source", "some"] (defScope s_law_choice) := ⟨rfl, rfl, rfl, by decide +kernel, rfl, by decide +kernel, by decide +kernel⟩
abbrev s_law_values : Stmt := topS 38
theorem sc_law_values : FnScope N_law_values [] (defScope s_law_values) := ⟨rfl, rfl, rfl, by decide +kernel, rfl, by decide +kernel, by decide +kernel⟩
abbrev s_law_rule : Stmt := topS 39
theorem sc_law_rule : FnScope N_law_rule ["source"] (defScope s_law_rule) := ⟨rfl, rfl, rfl, by decide +kernel, rfl, by decide +kernel, by decide +kernel⟩
abbrev s_law_taken : Stmt := topS 40
theorem sc_law_taken : FnScope N_law_taken ["rule", "stand", "reader"] (defScope s_law_taken) := ⟨rfl, rfl, rfl, by decide +kernel, rfl, by decide +kernel, by decide +kernel⟩
abbrev s_law_renewed : Stmt := topS 41
theorem sc_law_renewed : FnScope N_law_renewed ["rule", "stand"] (defScope s_law_renewed) := ⟨rfl, rfl, rfl, by decide +kernel, rfl, by decide +kernel, by decide +kernel⟩
abbrev s_law_night : Stmt := topS 42
theorem sc_law_night : FnScope N_law_night ["rule", "stand"] (defScope s_law_night) := ⟨rfl, rfl, rfl, by decide +kernel, rfl, by decide +kernel, by decide +kernel⟩
abbrev s_law_done : Stmt := topS 43
theorem sc_law_done : FnScope N_law_done ["rule", "readers", "stand", "deed"] (defScope s_law_done) := ⟨rfl, rfl, rfl, by decide +kernel, rfl, by decide +kernel, by decide +kernel⟩
abbrev s_law_deeds : Stmt := topS 44
theorem sc_law_deeds : FnScope N_law_deeds ["readers"] (defScope s_law_deeds) := ⟨rfl, rfl, rfl, by decide +kernel, rfl, by decide +kernel, by decide +kernel⟩
abbrev s_law_begun : Stmt := topS 45
theorem sc_law_begun : FnScope N_law_begun [] (defScope s_law_begun) := ⟨rfl, rfl, rfl, by decide +kernel, rfl, by decide +kernel, by decide +kernel⟩
abbrev s_law_led : Stmt := topS 46
theorem sc_law_led : FnScope N_law_led ["rule", "readers", "row"] (defScope s_law_led) := ⟨rfl, rfl, rfl, by decide +kernel, rfl, by decide +kernel, by decide +kernel⟩
abbrev s_law_row : Stmt := topS 47
theorem sc_law_row : FnScope N_law_row ["source", "rule", "readers", "most"] (defScope s_law_row) := ⟨rfl, rfl, rfl, by decide +kernel, rfl, by decide +kernel, by decide +kernel⟩
abbrev s_law_tried : Stmt := topS 48
theorem sc_law_tried : FnScope N_law_tried ["rule", "readers", "row", "deed"] (defScope s_law_tried) := ⟨rfl, rfl, rfl, by decide +kernel, rfl, by decide +kernel, by decide +kernel⟩
abbrev s_law_right : Stmt := topS 49
theorem sc_law_right : FnScope N_law_right ["rule", "readers", "row"] (defScope s_law_right) := ⟨rfl, rfl, rfl, by decide +kernel, rfl, by decide +kernel, by decide +kernel⟩
abbrev s_law : Stmt := topS 50
theorem sc_law : FnScope N_law ["script"] (defScope s_law) := ⟨rfl, rfl, rfl, by decide +kernel, rfl, by decide +kernel, by decide +kernel⟩
structure Fct (K : PySem.W.Frag) (mg : Str → Option Value) : Prop where
  glo_is_from : mg "is_from" = some (.ref (He.ga K "is_from"))
  fun_is_from : ∃ fd, FunD K "is_from" "is_from" (defArgs s_is_from) (defBody s_is_from) (defScope s_is_from) [] [] (He.ga K "is_from") fd
  free_isinstance : mg "isinstance" = none
  free_int : mg "int" = none
  free_bool : mg "bool" = none
  glo_is_tuple : mg "is_tuple" = some (.ref (He.ga K "is_tuple"))
  fun_is_tuple : ∃ fd, FunD K "is_tuple" "is_tuple" (defArgs s_is_tuple) (defBody s_is_tuple) (defScope s_is_tuple) [] [] (He.ga K "is_tuple") fd
  free_tuple : mg "tuple" = none
  free_len : mg "len" = none
  glo_is_part : mg "is_part" = some (.ref (He.ga K "is_part"))
  fun_is_part : ∃ fd, FunD K "is_part" "is_part" (defArgs s_is_part) (defBody s_is_part) (defScope s_is_part) [] [] (He.ga K "is_part") fd
  val_VALUES : ValF K mg "VALUES" v_VALUES
  free_str : mg "str" = none
  glo_is_rule : mg "is_rule" = some (.ref (He.ga K "is_rule"))
  fun_is_rule : ∃ fd, FunD K "is_rule" "is_rule" (defArgs s_is_rule) (defBody s_is_rule) (defScope s_is_rule) [] [] (He.ga K "is_rule") fd
  free_enumerate : mg "enumerate" = none
  free_all : mg "all" = none
  glo_need_rule : mg "need_rule" = some (.ref (He.ga K "need_rule"))
  fun_need_rule : ∃ fd, FunD K "need_rule" "need_rule" (defArgs s_need_rule) (defBody s_need_rule) (defScope s_need_rule) [] [] (He.ga K "need_rule") fd
  exc_InvalidRule : ExF K mg "InvalidRule"
  glo_need_both : mg "need_both" = some (.ref (He.ga K "need_both"))
  fun_need_both : ∃ fd, FunD K "need_both" "need_both" (defArgs s_need_both) (defBody s_need_both) (defScope s_need_both) [] [] (He.ga K "need_both") fd
  exc_InvalidReaders : ExF K mg "InvalidReaders"
  glo_can_take : mg "can_take" = some (.ref (He.ga K "can_take"))
  fun_can_take : ∃ fd, FunD K "can_take" "can_take" (defArgs s_can_take) (defBody s_can_take) (defScope s_can_take) [] [] (He.ga K "can_take") fd
  val_NOBODY : ValF K mg "NOBODY" v_NOBODY
  glo_renewed_left : mg "renewed_left" = some (.ref (He.ga K "renewed_left"))
  fun_renewed_left : ∃ fd, FunD K "renewed_left" "renewed_left" (defArgs s_renewed_left) (defBody s_renewed_left) (defScope s_renewed_left) [] [] (He.ga K "renewed_left") fd
  glo_can_renew : mg "can_renew" = some (.ref (He.ga K "can_renew"))
  fun_can_renew : ∃ fd, FunD K "can_renew" "can_renew" (defArgs s_can_renew) (defBody s_can_renew) (defScope s_can_renew) [] [] (He.ga K "can_renew") fd
  val_ENDLESS : ValF K mg "ENDLESS" v_ENDLESS
  val_MOST_LEFT : ValF K mg "MOST_LEFT" v_MOST_LEFT
  glo_deeds_at : mg "deeds_at" = some (.ref (He.ga K "deeds_at"))
  fun_deeds_at : ∃ fd, FunD K "deeds_at" "deeds_at" (defArgs s_deeds_at) (defBody s_deeds_at) (defScope s_deeds_at) [] [] (He.ga K "deeds_at") fd
  free_list : mg "list" = none
  free_range : mg "range" = none
  glo_called : mg "called" = some (.ref (He.ga K "called"))
  fun_called : ∃ fd, FunD K "called" "called" (defArgs s_called) (defBody s_called) (defScope s_called) [] [] (He.ga K "called") fd
  free_min : mg "min" = none
  glo_fetch_days : mg "fetch_days" = some (.ref (He.ga K "fetch_days"))
  fun_fetch_days : ∃ fd, FunD K "fetch_days" "fetch_days" (defArgs s_fetch_days) (defBody s_fetch_days) (defScope s_fetch_days) [] [] (He.ga K "fetch_days") fd
  glo_night : mg "night" = some (.ref (He.ga K "night"))
  fun_night : ∃ fd, FunD K "night" "night" (defArgs s_night) (defBody s_night) (defScope s_night) [] [] (He.ga K "night") fd
  free_max : mg "max" = none
  glo_done : mg "done" = some (.ref (He.ga K "done"))
  fun_done : ∃ fd, FunD K "done" "done" (defArgs s_done) (defBody s_done) (defScope s_done) [] [] (He.ga K "done") fd
  free_sorted : mg "sorted" = none
  glo_is_deed : mg "is_deed" = some (.ref (He.ga K "is_deed"))
  fun_is_deed : ∃ fd, FunD K "is_deed" "is_deed" (defArgs s_is_deed) (defBody s_is_deed) (defScope s_is_deed) [] [] (He.ga K "is_deed") fd
  glo_led : mg "led" = some (.ref (He.ga K "led"))
  fun_led : ∃ fd, FunD K "led" "led" (defArgs s_led) (defBody s_led) (defScope s_led) [] [] (He.ga K "led") fd
  val_FIRST : ValF K mg "FIRST" v_FIRST
  glo_has_row : mg "has_row" = some (.ref (He.ga K "has_row"))
  fun_has_row : ∃ fd, FunD K "has_row" "has_row" (defArgs s_has_row) (defBody s_has_row) (defScope s_has_row) [] [] (He.ga K "has_row") fd
  val_MOST_DEEDS : ValF K mg "MOST_DEEDS" v_MOST_DEEDS
  glo_need_row : mg "need_row" = some (.ref (He.ga K "need_row"))
  fun_need_row : ∃ fd, FunD K "need_row" "need_row" (defArgs s_need_row) (defBody s_need_row) (defScope s_need_row) [] [] (He.ga K "need_row") fd
  exc_InvalidRow : ExF K mg "InvalidRow"
  glo_possible : mg "possible" = some (.ref (He.ga K "possible"))
  fun_possible : ∃ fd, FunD K "possible" "possible" (defArgs s_possible) (defBody s_possible) (defScope s_possible) [] [] (He.ga K "possible") fd
  glo_after : mg "after" = some (.ref (He.ga K "after"))
  fun_after : ∃ fd, FunD K "after" "after" (defArgs s_after) (defBody s_after) (defScope s_after) [] [] (He.ga K "after") fd
  exc_InvalidDeed : ExF K mg "InvalidDeed"
  glo_law_source : mg "_law_source" = some (.ref (He.ga K "_law_source"))
  fun_law_source : ∃ fd, FunD K "_law_source" "_law_source" (defArgs s_law_source) (defBody s_law_source) (defScope s_law_source) [] [] (He.ga K "_law_source") fd
  free_abs : mg "abs" = none
  glo_law_draw : mg "_law_draw" = some (.ref (He.ga K "_law_draw"))
  fun_law_draw : ∃ fd, FunD K "_law_draw" "_law_draw" (defArgs s_law_draw) (defBody s_law_draw) (defScope s_law_draw) [] [] (He.ga K "_law_draw") fd
  glo_law_choice : mg "_law_choice" = some (.ref (He.ga K "_law_choice"))
  fun_law_choice : ∃ fd, FunD K "_law_choice" "_law_choice" (defArgs s_law_choice) (defBody s_law_choice) (defScope s_law_choice) [] [] (He.ga K "_law_choice") fd
  glo_law_values : mg "_law_values" = some (.ref (He.ga K "_law_values"))
  fun_law_values : ∃ fd, FunD K "_law_values" "_law_values" (defArgs s_law_values) (defBody s_law_values) (defScope s_law_values) [] [] (He.ga K "_law_values") fd
  glo_law_rule : mg "_law_rule" = some (.ref (He.ga K "_law_rule"))
  fun_law_rule : ∃ fd, FunD K "_law_rule" "_law_rule" (defArgs s_law_rule) (defBody s_law_rule) (defScope s_law_rule) [] [] (He.ga K "_law_rule") fd
  glo_law_taken : mg "_law_taken" = some (.ref (He.ga K "_law_taken"))
  fun_law_taken : ∃ fd, FunD K "_law_taken" "_law_taken" (defArgs s_law_taken) (defBody s_law_taken) (defScope s_law_taken) [] [] (He.ga K "_law_taken") fd
  glo_law_renewed : mg "_law_renewed" = some (.ref (He.ga K "_law_renewed"))
  fun_law_renewed : ∃ fd, FunD K "_law_renewed" "_law_renewed" (defArgs s_law_renewed) (defBody s_law_renewed) (defScope s_law_renewed) [] [] (He.ga K "_law_renewed") fd
  glo_law_night : mg "_law_night" = some (.ref (He.ga K "_law_night"))
  fun_law_night : ∃ fd, FunD K "_law_night" "_law_night" (defArgs s_law_night) (defBody s_law_night) (defScope s_law_night) [] [] (He.ga K "_law_night") fd
  glo_law_done : mg "_law_done" = some (.ref (He.ga K "_law_done"))
  fun_law_done : ∃ fd, FunD K "_law_done" "_law_done" (defArgs s_law_done) (defBody s_law_done) (defScope s_law_done) [] [] (He.ga K "_law_done") fd
  glo_law_deeds : mg "_law_deeds" = some (.ref (He.ga K "_law_deeds"))
  fun_law_deeds : ∃ fd, FunD K "_law_deeds" "_law_deeds" (defArgs s_law_deeds) (defBody s_law_deeds) (defScope s_law_deeds) [] [] (He.ga K "_law_deeds") fd
  glo_law_begun : mg "_law_begun" = some (.ref (He.ga K "_law_begun"))
  fun_law_begun : ∃ fd, FunD K "_law_begun" "_law_begun" (defArgs s_law_begun) (defBody s_law_begun) (defScope s_law_begun) [] [] (He.ga K "_law_begun") fd
  glo_law_led : mg "_law_led" = some (.ref (He.ga K "_law_led"))
  fun_law_led : ∃ fd, FunD K "_law_led" "_law_led" (defArgs s_law_led) (defBody s_law_led) (defScope s_law_led) [] [] (He.ga K "_law_led") fd
  glo_law_row : mg "_law_row" = some (.ref (He.ga K "_law_row"))
  fun_law_row : ∃ fd, FunD K "_law_row" "_law_row" (defArgs s_law_row) (defBody s_law_row) (defScope s_law_row) [] [] (He.ga K "_law_row") fd
  glo_law_tried : mg "_law_tried" = some (.ref (He.ga K "_law_tried"))
  fun_law_tried : ∃ fd, FunD K "_law_tried" "_law_tried" (defArgs s_law_tried) (defBody s_law_tried) (defScope s_law_tried) [] [] (He.ga K "_law_tried") fd
  exm_InvalidDeed_InvalidDeed : ExmF K mg "InvalidDeed" "InvalidDeed" true
  glo_law_right : mg "_law_right" = some (.ref (He.ga K "_law_right"))
  fun_law_right : ∃ fd, FunD K "_law_right" "_law_right" (defArgs s_law_right) (defBody s_law_right) (defScope s_law_right) [] [] (He.ga K "_law_right") fd
  glo_law : mg "law" = some (.ref (He.ga K "law"))
  fun_law : ∃ fd, FunD K "law" "law" (defArgs s_law) (defBody s_law) (defScope s_law) [] [] (He.ga K "law") fd
section
variable {P : Program} {w : World} {K : PySem.W.Frag} {mg : Str → Option Value} {base : Heap}
theorem fn_is_from (C : Fct K mg) : FnF P w K mg base 1 "is_from" 3 (spP K mg 3 m_is_from) :=
  fnF_pure C.fun_is_from sc_is_from C.glo_is_from rfl (fun _ _ _ _ _ _ us hl => match us, hl with | [_, _, _], _ => rfl) fun cdv A outer s H E hr =>
  (sem_sone (sem_ret (sem_and (sem_isi .int C.free_isinstance C.free_int boot_int (sem_var (i := 0))) (sem_and (sem_not (sem_isi .bool C.free_isinstance C.free_bool boot_bool (sem_var (i := 0)))) (sem_one (sem_chain hr (sem_var (i := 1)) (sem_var (i := 0)) (sem_var (i := 2))))))))
theorem fn_is_tuple (C : Fct K mg) : FnF P w K mg base 1 "is_tuple" 3 (spP K mg 3 m_is_tuple) :=
  fnF_pure C.fun_is_tuple sc_is_tuple C.glo_is_tuple rfl (fun _ _ _ _ _ _ us hl => match us, hl with | [_, _, _], _ => rfl) fun cdv A outer s H E hr =>
  (sem_sone (sem_ret (sem_and (sem_isi .tuple C.free_isinstance C.free_tuple boot_tuple (sem_var (i := 0))) (sem_one (sem_chain hr (sem_var (i := 1)) (sem_blt call_lenD rfl C.free_len boot_len (sem_cons (sem_var (i := 0)) sem_nil)) (sem_var (i := 2)))))))
theorem fn_is_part (C : Fct K mg) : FnF P w K mg base 1 "is_part" 2 (spP K mg 2 m_is_part) :=
  fnF_pure C.fun_is_part sc_is_part C.glo_is_part rfl (fun _ _ _ _ _ _ us hl => match us, hl with | [_, _], _ => rfl) fun cdv A outer s H E hr =>
  (sem_scons (sem_for (T := (.one 2)) (sem_iter (sem_ix (sem_val C.val_VALUES) (sem_var (i := 0)))) (tg_one sc_is_part.nd) (sem_sone (sem_sif (sem_w (sem_andW (sem_cmpT hr (sem_isi .bool C.free_isinstance C.free_bool boot_bool (sem_var (i := 2))) (sem_isi .bool C.free_isinstance C.free_bool boot_bool (sem_var (i := 1)))) (sem_and1 (sem_cmpT hr (sem_isi .str C.free_isinstance C.free_str boot_str (sem_var (i := 2))) (sem_isi .str C.free_isinstance C.free_str boot_str (sem_var (i := 1))))))) (sem_sone (sem_sif (sem_w (sem_andW (sem_valT (sem_isiT (by decide) C.free_isinstance (tyl_cons .bool rfl C.free_bool boot_bool (tyl_cons .int rfl C.free_int boot_int (tyl_cons .str rfl C.free_str boot_str tyl_nil))) (sem_var (i := 1)))) (sem_and1 (sem_cmpT hr (sem_var (i := 2)) (sem_var (i := 1)))))) (sem_sone (sem_ret sem_bl)) sem_snil)) sem_snil))) (sem_sone (sem_ret sem_bl)))
theorem fn_is_rule (C : Fct K mg) : FnF P w K mg base 2 "is_rule" 1 (spP K mg 1 m_is_rule) :=
  fnF_pure C.fun_is_rule sc_is_rule C.glo_is_rule rfl (fun _ _ _ _ _ _ us hl => match us, hl with | [_], _ => rfl) fun cdv A outer s H E hr =>
  (sem_sone (sem_ret (sem_and (sem_call (fn_is_tuple C) (hr.mono (by first | decide | omega)) (sem_cons (sem_var (i := 0)) (sem_cons sem_int (sem_cons sem_int sem_nil)))) (sem_one (sem_blt (call_allD rfl) rfl C.free_all boot_all (sem_cons (sem_lc (T := (.many [1, 2])) (own := [("place", 1), ("part", 2)]) sc_is_rule.nd (sem_enum C.free_enumerate (sem_var (i := 0))) (blkOk_by (own := [("place", 1), ("part", 2)]) (N := N_is_rule) (sc := defScope s_is_rule) (by decide +kernel)) (by decide) (fun _ _ _ _ _ => (tg_many rfl (.cons (i := 1) sc_is_rule.nd rfl (by first | exact Or.inl rfl | exact Or.inr rfl) (by first | exact Or.inl rfl | exact Or.inr rfl) rfl (.cons (i := 2) sc_is_rule.nd rfl (by first | exact Or.inl rfl | exact Or.inr rfl) (by first | exact Or.inl rfl | exact Or.inr rfl) rfl .nil)))) (fun _ _ _ _ _ => sem_ts0) (fun _ _ _ _ _ => (sem_call (fn_is_part C) (hr.mono (by first | decide | omega)) (sem_cons (sem_var (i := 1)) (sem_cons (sem_var (i := 2)) sem_nil))))) sem_nil))))))
theorem fn_need_rule (C : Fct K mg) : FnF P w K mg base 3 "need_rule" 1 (spP K mg 1 m_need_rule) :=
  fnF_pure C.fun_need_rule sc_need_rule C.glo_need_rule rfl (fun _ _ _ _ _ _ us hl => match us, hl with | [_], _ => rfl) fun cdv A outer s H E hr =>
  (sem_sone (sem_sif (sem_notT (sem_valT (sem_call (fn_is_rule C) (hr.mono (by first | decide | omega)) (sem_cons (sem_var (i := 0)) sem_nil)))) (sem_sone (sem_raise C.exc_InvalidRule)) sem_snil))
theorem fn_need_both (C : Fct K mg) : FnF P w K mg base 4 "need_both" 2 (spP K mg 2 m_need_both) :=
  fnF_pure C.fun_need_both sc_need_both C.glo_need_both rfl (fun _ _ _ _ _ _ us hl => match us, hl with | [_, _], _ => rfl) fun cdv A outer s H E hr =>
  (sem_scons (sem_expr (sem_call (fn_need_rule C) (hr.mono (by first | decide | omega)) (sem_cons (sem_var (i := 0)) sem_nil))) (sem_sone (sem_sif (sem_notT (sem_valT (sem_call (fn_is_from C) (hr.mono (by first | decide | omega)) (sem_cons (sem_var (i := 1)) (sem_cons sem_int (sem_cons sem_int sem_nil)))))) (sem_sone (sem_raise C.exc_InvalidReaders)) sem_snil)))
theorem fn_can_take (C : Fct K mg) : FnF P w K mg base 1 "can_take" 3 (spP K mg 3 m_can_take) :=
  fnF_pure C.fun_can_take sc_can_take C.glo_can_take rfl (fun _ _ _ _ _ _ us hl => match us, hl with | [_, _, _], _ => rfl) fun cdv A outer s H E hr =>
  (sem_scons (sem_asg (T := (.many [3, 4, 5, 6, 7, 8, 9])) (tg_many rfl (.cons (i := 3) sc_can_take.nd rfl (by first | exact Or.inl rfl | exact Or.inr rfl) (by first | exact Or.inl rfl | exact Or.inr rfl) rfl (.cons (i := 4) sc_can_take.nd rfl (by first | exact Or.inl rfl | exact Or.inr rfl) (by first | exact Or.inl rfl | exact Or.inr rfl) rfl (.cons (i := 5) sc_can_take.nd rfl (by first | exact Or.inl rfl | exact Or.inr rfl) (by first | exact Or.inl rfl | exact Or.inr rfl) rfl (.cons (i := 6) sc_can_take.nd rfl (by first | exact Or.inl rfl | exact Or.inr rfl) (by first | exact Or.inl rfl | exact Or.inr rfl) rfl (.cons (i := 7) sc_can_take.nd rfl (by first | exact Or.inl rfl | exact Or.inr rfl) (by first | exact Or.inl rfl | exact Or.inr rfl) rfl (.cons (i := 8) sc_can_take.nd rfl (by first | exact Or.inl rfl | exact Or.inr rfl) (by first | exact Or.inl rfl | exact Or.inr rfl) rfl (.cons (i := 9) sc_can_take.nd rfl (by first | exact Or.inl rfl | exact Or.inr rfl) (by first | exact Or.inl rfl | exact Or.inr rfl) rfl .nil)))))))) (sem_var (i := 1))) (sem_scons (sem_sif (sem_w (sem_orW (sem_cmpT hr (sem_var (i := 3)) (sem_val C.val_NOBODY)) (sem_or1 (sem_cmpT hr (sem_var (i := 2)) (sem_var (i := 9)))))) (sem_sone (sem_ret sem_bl)) sem_snil) (sem_sone (sem_ret (sem_or (sem_cmp hr (sem_ix (sem_var (i := 0)) sem_int) sem_str) (sem_or (sem_cmp hr (sem_var (i := 7)) (sem_tup sem_nil)) (sem_one (sem_cmp hr (sem_ix (sem_var (i := 7)) sem_int) (sem_var (i := 2))))))))))
theorem fn_renewed_left (C : Fct K mg) : FnF P w K mg base 1 "renewed_left" 2 (spP K mg 2 m_renewed_left) :=
  fnF_pure C.fun_renewed_left sc_renewed_left C.glo_renewed_left rfl (fun _ _ _ _ _ _ us hl => match us, hl with | [_, _], _ => rfl) fun cdv A outer s H E hr =>
  (sem_sone (sem_ret (sem_bin (sem_ix (sem_var (i := 0)) sem_int) (sem_if (sem_cmpT hr (sem_ix (sem_var (i := 0)) sem_int) sem_str) (sem_var (i := 1)) sem_int))))
theorem fn_can_renew (C : Fct K mg) : FnF P w K mg base 2 "can_renew" 2 (spP K mg 2 m_can_renew) :=
  fnF_pure C.fun_can_renew sc_can_renew C.glo_can_renew rfl (fun _ _ _ _ _ _ us hl => match us, hl with | [_, _], _ => rfl) fun cdv A outer s H E hr =>
  (sem_scons (sem_asg (T := (.many [2, 3, 4, 5, 6, 7, 8])) (tg_many rfl (.cons (i := 2) sc_can_renew.nd rfl (by first | exact Or.inl rfl | exact Or.inr rfl) (by first | exact Or.inl rfl | exact Or.inr rfl) rfl (.cons (i := 3) sc_can_renew.nd rfl (by first | exact Or.inl rfl | exact Or.inr rfl) (by first | exact Or.inl rfl | exact Or.inr rfl) rfl (.cons (i := 4) sc_can_renew.nd rfl (by first | exact Or.inl rfl | exact Or.inr rfl) (by first | exact Or.inl rfl | exact Or.inr rfl) rfl (.cons (i := 5) sc_can_renew.nd rfl (by first | exact Or.inl rfl | exact Or.inr rfl) (by first | exact Or.inl rfl | exact Or.inr rfl) rfl (.cons (i := 6) sc_can_renew.nd rfl (by first | exact Or.inl rfl | exact Or.inr rfl) (by first | exact Or.inl rfl | exact Or.inr rfl) rfl (.cons (i := 7) sc_can_renew.nd rfl (by first | exact Or.inl rfl | exact Or.inr rfl) (by first | exact Or.inl rfl | exact Or.inr rfl) rfl (.cons (i := 8) sc_can_renew.nd rfl (by first | exact Or.inl rfl | exact Or.inr rfl) (by first | exact Or.inl rfl | exact Or.inr rfl) rfl .nil)))))))) (sem_var (i := 1))) (sem_scons (sem_sif (sem_w (sem_orW (sem_cmpT hr (sem_var (i := 2)) (sem_val C.val_NOBODY)) (sem_orW (sem_cmpT hr (sem_var (i := 3)) sem_int) (sem_or1 (sem_w (sem_andW (sem_cmpT hr (sem_var (i := 4)) (sem_ix (sem_var (i := 0)) sem_int)) (sem_and1 (sem_cmpT hr (sem_ix (sem_var (i := 0)) sem_int) (sem_val C.val_ENDLESS))))))))) (sem_sone (sem_ret sem_bl)) sem_snil) (sem_sone (sem_ret (sem_and (sem_or (sem_cmp hr (sem_var (i := 6)) (sem_tup sem_nil)) (sem_one (sem_not (sem_ix (sem_var (i := 0)) sem_int)))) (sem_one (sem_cmp hr (sem_call (fn_renewed_left C) (hr.mono (by first | decide | omega)) (sem_cons (sem_var (i := 0)) (sem_cons (sem_var (i := 3)) sem_nil))) (sem_val C.val_MOST_LEFT))))))))
theorem fn_deeds_at (C : Fct K mg) : FnF P w K mg base 3 "deeds_at" 3 (spP K mg 3 m_deeds_at) :=
  fnF_pure C.fun_deeds_at sc_deeds_at C.glo_deeds_at rfl (fun _ _ _ _ _ _ us hl => match us, hl with | [_, _, _], _ => rfl) fun cdv A outer s H E hr =>
  (sem_scons (sem_asg (T := (.many [3, 4])) (tg_many rfl (.cons (i := 3) sc_deeds_at.nd rfl (by first | exact Or.inl rfl | exact Or.inr rfl) (by first | exact Or.inl rfl | exact Or.inr rfl) rfl (.cons (i := 4) sc_deeds_at.nd rfl (by first | exact Or.inl rfl | exact Or.inr rfl) (by first | exact Or.inl rfl | exact Or.inr rfl) rfl .nil))) (sem_tup (sem_cons (sem_ix (sem_var (i := 2)) sem_int) (sem_cons (sem_ix (sem_var (i := 2)) sem_int) sem_nil)))) (sem_scons (sem_set (i := 5) sc_deeds_at.nd (sem_listrange C.free_list C.free_range (sem_var (i := 1)))) (sem_scons (sem_setLc (i := 6) (T := (.one 7)) (own := [("reader", 7)]) sc_deeds_at.nd (sw_true rfl rfl rfl (by decide +kernel)) (sem_iter (sem_var (i := 5))) (blkOk_by (own := [("reader", 7)]) (N := N_deeds_at) (sc := defScope s_deeds_at) (by decide +kernel)) (by decide) (fun _ _ _ _ _ => (tg_one sc_deeds_at.nd)) (fun _ _ _ _ _ => (sem_ts1 (sem_w (sem_andW (sem_cmpT hr (sem_var (i := 7)) (sem_var (i := 3))) (sem_and1 (sem_cmpT hr (sem_var (i := 7)) (sem_var (i := 4)))))))) (fun _ _ _ _ _ => (sem_tup (sem_cons sem_str (sem_cons (sem_var (i := 7)) sem_nil))))) (sem_scons (sem_set (i := 6) sc_deeds_at.nd (sem_bin (sem_bin (sem_var (i := 6)) (sem_if (sem_cmpT hr (sem_var (i := 3)) (sem_val C.val_NOBODY)) (sem_lst (sem_cons (sem_tup (sem_cons sem_str sem_nil)) sem_nil)) (sem_lst sem_nil))) (sem_lst (sem_cons (sem_tup (sem_cons sem_str sem_nil)) sem_nil)))) (sem_scons (sem_set (i := 6) sc_deeds_at.nd (sem_bin (sem_var (i := 6)) (sem_lc (T := (.one 7)) (own := [("reader", 7)]) sc_deeds_at.nd (sem_iter (sem_var (i := 5))) (blkOk_by (own := [("reader", 7)]) (N := N_deeds_at) (sc := defScope s_deeds_at) (by decide +kernel)) (by decide) (fun _ _ _ _ _ => (tg_one sc_deeds_at.nd)) (fun _ _ _ _ _ => (sem_ts1 (sem_cmpT hr (sem_var (i := 7)) (sem_var (i := 4))))) (fun _ _ _ _ _ => (sem_tup (sem_cons sem_str (sem_cons (sem_var (i := 7)) sem_nil))))))) (sem_scons (sem_set (i := 6) sc_deeds_at.nd (sem_bin (sem_var (i := 6)) (sem_if (sem_valT (sem_call (fn_can_renew C) (hr.mono (by first | decide | omega)) (sem_cons (sem_var (i := 0)) (sem_cons (sem_var (i := 2)) sem_nil)))) (sem_lst (sem_cons (sem_tup (sem_cons sem_str sem_nil)) sem_nil)) (sem_lst sem_nil)))) (sem_sone (sem_ret (sem_bin (sem_var (i := 6)) (sem_lc (T := (.one 7)) (own := [("reader", 7)]) sc_deeds_at.nd (sem_iter (sem_var (i := 5))) (blkOk_by (own := [("reader", 7)]) (N := N_deeds_at) (sc := defScope s_deeds_at) (by decide +kernel)) (by decide) (fun _ _ _ _ _ => (tg_one sc_deeds_at.nd)) (fun _ _ _ _ _ => (sem_ts1 (sem_valT (sem_call (fn_can_take C) (hr.mono (by first | decide | omega)) (sem_cons (sem_var (i := 0)) (sem_cons (sem_var (i := 2)) (sem_cons (sem_var (i := 7)) sem_nil))))))) (fun _ _ _ _ _ => (sem_tup (sem_cons sem_str (sem_cons (sem_var (i := 7)) sem_nil))))))))))))))
theorem fn_called (C : Fct K mg) : FnF P w K mg base 1 "called" 3 (spP K mg 3 m_called) :=
  fnF_pure C.fun_called sc_called C.glo_called rfl (fun _ _ _ _ _ _ us hl => match us, hl with | [_, _, _], _ => rfl) fun cdv A outer s H E hr =>
  (sem_sone (sem_ret (sem_if (sem_w (sem_andW (sem_cmpT hr (sem_var (i := 2)) (sem_tup sem_nil)) (sem_and1 (sem_cmpT hr (sem_ix (sem_var (i := 0)) sem_int) sem_int)))) (sem_blt (call_minD rfl) rfl C.free_min boot_min (sem_cons (sem_var (i := 1)) (sem_cons (sem_ix (sem_var (i := 0)) sem_int) sem_nil))) (sem_var (i := 1)))))
theorem fn_fetch_days (C : Fct K mg) : FnF P w K mg base 1 "fetch_days" 3 (spP K mg 3 m_fetch_days) :=
  fnF_pure C.fun_fetch_days sc_fetch_days C.glo_fetch_days rfl (fun _ _ _ _ _ _ us hl => match us, hl with | [_, _, _], _ => rfl) fun cdv A outer s H E hr =>
  (sem_sone (sem_ret (sem_if (sem_w (sem_andW (sem_cmpT hr (sem_var (i := 1)) (sem_val C.val_NOBODY)) (sem_and1 (sem_cmpT hr (sem_var (i := 2)) (sem_tup sem_nil))))) (sem_ix (sem_var (i := 0)) sem_int) sem_int)))
theorem fn_night (C : Fct K mg) : FnF P w K mg base 2 "night" 2 (spP K mg 2 m_night) :=
  fnF_pure C.fun_night sc_night C.glo_night rfl (fun _ _ _ _ _ _ us hl => match us, hl with | [_, _], _ => rfl) fun cdv A outer s H E hr =>
  (sem_scons (sem_asg (T := (.many [2, 3, 4, 5, 6, 7, 8])) (tg_many rfl (.cons (i := 2) sc_night.nd rfl (by first | exact Or.inl rfl | exact Or.inr rfl) (by first | exact Or.inl rfl | exact Or.inr rfl) rfl (.cons (i := 3) sc_night.nd rfl (by first | exact Or.inl rfl | exact Or.inr rfl) (by first | exact Or.inl rfl | exact Or.inr rfl) rfl (.cons (i := 4) sc_night.nd rfl (by first | exact Or.inl rfl | exact Or.inr rfl) (by first | exact Or.inl rfl | exact Or.inr rfl) rfl (.cons (i := 5) sc_night.nd rfl (by first | exact Or.inl rfl | exact Or.inr rfl) (by first | exact Or.inl rfl | exact Or.inr rfl) rfl (.cons (i := 6) sc_night.nd rfl (by first | exact Or.inl rfl | exact Or.inr rfl) (by first | exact Or.inl rfl | exact Or.inr rfl) rfl (.cons (i := 7) sc_night.nd rfl (by first | exact Or.inl rfl | exact Or.inr rfl) (by first | exact Or.inl rfl | exact Or.inr rfl) rfl (.cons (i := 8) sc_night.nd rfl (by first | exact Or.inl rfl | exact Or.inr rfl) (by first | exact Or.inl rfl | exact Or.inr rfl) rfl .nil)))))))) (sem_var (i := 1))) (sem_scons (sem_sif (sem_cmpT hr (sem_var (i := 2)) (sem_val C.val_NOBODY)) (sem_sone (sem_ret (sem_tup (sem_cons (sem_var (i := 2)) (sem_cons (sem_blt (call_maxD rfl) rfl C.free_max boot_max (sem_cons (sem_neg sem_int) (sem_cons (sem_bin (sem_var (i := 3)) sem_int) sem_nil))) (sem_cons (sem_var (i := 4)) (sem_cons (sem_blt (call_maxD rfl) rfl C.free_max boot_max (sem_cons sem_int (sem_cons (sem_bin (sem_var (i := 5)) sem_int) sem_nil))) (sem_cons (sem_var (i := 6)) (sem_cons sem_int (sem_cons (sem_tup sem_nil) sem_nil)))))))))) sem_snil) (sem_scons (sem_sif (sem_cmpT hr (sem_var (i := 7)) sem_int) (sem_scons (sem_set (i := 6) sc_night.nd (sem_bin (sem_slice (sem_var (i := 6)) (sem_some sem_int) sem_none) (sem_if (sem_cmpT hr (sem_ix (sem_var (i := 0)) sem_int) sem_str) (sem_slice (sem_var (i := 6)) sem_none (sem_some sem_int)) (sem_tup sem_nil)))) (sem_sone (sem_ret (sem_tup (sem_cons (sem_val C.val_NOBODY) (sem_cons sem_int (sem_cons sem_int (sem_cons sem_int (sem_cons (sem_var (i := 6)) (sem_cons (sem_call (fn_fetch_days C) (hr.mono (by first | decide | omega)) (sem_cons (sem_var (i := 0)) (sem_cons (sem_val C.val_NOBODY) (sem_cons (sem_var (i := 6)) sem_nil)))) (sem_cons (sem_tup sem_nil) sem_nil))))))))))) sem_snil) (sem_sone (sem_ret (sem_tup (sem_cons (sem_val C.val_NOBODY) (sem_cons sem_int (sem_cons sem_int (sem_cons sem_int (sem_cons (sem_var (i := 6)) (sem_cons (sem_blt (call_maxD rfl) rfl C.free_max boot_max (sem_cons sem_int (sem_cons (sem_bin (sem_var (i := 7)) sem_int) sem_nil))) (sem_cons (sem_tup sem_nil) sem_nil)))))))))))))
theorem fn_done (C : Fct K mg) : FnF P w K mg base 3 "done" 3 (spP K mg 3 m_done) :=
  fnF_pure C.fun_done sc_done C.glo_done rfl (fun _ _ _ _ _ _ us hl => match us, hl with | [_, _, _], _ => rfl) fun cdv A outer s H E hr =>
  (sem_scons (sem_asg (T := (.many [3, 4, 5, 6, 7, 8, 9])) (tg_many rfl (.cons (i := 3) sc_done.nd rfl (by first | exact Or.inl rfl | exact Or.inr rfl) (by first | exact Or.inl rfl | exact Or.inr rfl) rfl (.cons (i := 4) sc_done.nd rfl (by first | exact Or.inl rfl | exact Or.inr rfl) (by first | exact Or.inl rfl | exact Or.inr rfl) rfl (.cons (i := 5) sc_done.nd rfl (by first | exact Or.inl rfl | exact Or.inr rfl) (by first | exact Or.inl rfl | exact Or.inr rfl) rfl (.cons (i := 6) sc_done.nd rfl (by first | exact Or.inl rfl | exact Or.inr rfl) (by first | exact Or.inl rfl | exact Or.inr rfl) rfl (.cons (i := 7) sc_done.nd rfl (by first | exact Or.inl rfl | exact Or.inr rfl) (by first | exact Or.inl rfl | exact Or.inr rfl) rfl (.cons (i := 8) sc_done.nd rfl (by first | exact Or.inl rfl | exact Or.inr rfl) (by first | exact Or.inl rfl | exact Or.inr rfl) rfl (.cons (i := 9) sc_done.nd rfl (by first | exact Or.inl rfl | exact Or.inr rfl) (by first | exact Or.inl rfl | exact Or.inr rfl) rfl .nil)))))))) (sem_var (i := 1))) (sem_scons (sem_set (i := 10) sc_done.nd (sem_ix (sem_var (i := 2)) sem_int)) (sem_scons (sem_sif (sem_cmpT hr (sem_var (i := 10)) sem_str) (sem_sone (sem_ret (sem_call (fn_night C) (hr.mono (by first | decide | omega)) (sem_cons (sem_var (i := 0)) (sem_cons (sem_var (i := 1)) sem_nil))))) sem_snil) (sem_scons (sem_sif (sem_cmpT hr (sem_var (i := 10)) sem_str) (sem_scons (sem_set (i := 11) sc_done.nd (sem_ty call_tupleD rfl C.free_tuple boot_tuple (sem_cons (sem_lc (T := (.one 12)) (own := [("reader", 12)]) sc_done.nd (sem_iter (sem_var (i := 7))) (blkOk_by (own := [("reader", 12)]) (N := N_done) (sc := defScope s_done) (by decide +kernel)) (by decide) (fun _ _ _ _ _ => (tg_one sc_done.nd)) (fun _ _ _ _ _ => (sem_ts1 (sem_cmpT hr (sem_var (i := 12)) (sem_ix (sem_var (i := 2)) sem_int)))) (fun _ _ _ _ _ => (sem_var (i := 12)))) sem_nil))) (sem_sone (sem_ret (sem_tup (sem_cons (sem_ix (sem_var (i := 2)) sem_int) (sem_cons (sem_call (fn_called C) (hr.mono (by first | decide | omega)) (sem_cons (sem_var (i := 0)) (sem_cons (sem_ix (sem_var (i := 0)) sem_int) (sem_cons (sem_var (i := 11)) sem_nil)))) (sem_cons sem_int (sem_cons (sem_ix (sem_var (i := 0)) sem_int) (sem_cons (sem_var (i := 11)) (sem_cons sem_int (sem_cons (sem_var (i := 9)) sem_nil))))))))))) sem_snil) (sem_scons (sem_sif (sem_cmpT hr (sem_var (i := 10)) sem_str) (sem_scons (sem_set (i := 13) sc_done.nd (sem_call (fn_renewed_left C) (hr.mono (by first | decide | omega)) (sem_cons (sem_var (i := 0)) (sem_cons (sem_var (i := 4)) sem_nil)))) (sem_scons (sem_set (i := 5) sc_done.nd (sem_if (sem_cmpT hr (sem_ix (sem_var (i := 0)) sem_int) (sem_val C.val_ENDLESS)) (sem_bin (sem_var (i := 5)) sem_int) sem_int)) (sem_sone (sem_ret (sem_tup (sem_cons (sem_var (i := 3)) (sem_cons (sem_call (fn_called C) (hr.mono (by first | decide | omega)) (sem_cons (sem_var (i := 0)) (sem_cons (sem_var (i := 13)) (sem_cons (sem_var (i := 7)) sem_nil)))) (sem_cons (sem_var (i := 5)) (sem_cons (sem_var (i := 13)) (sem_cons (sem_var (i := 7)) (sem_cons sem_int (sem_cons (sem_var (i := 9)) sem_nil)))))))))))) sem_snil) (sem_scons (sem_sif (sem_cmpT hr (sem_var (i := 10)) sem_str) (sem_scons (sem_set (i := 14) sc_done.nd (sem_if (sem_valT (sem_ix (sem_var (i := 0)) sem_int)) (sem_ty call_tupleD rfl C.free_tuple boot_tuple (sem_cons (sem_sorted hr C.free_sorted (sem_cons (sem_bin (sem_var (i := 9)) (sem_tup (sem_cons (sem_var (i := 3)) sem_nil))) sem_nil)) sem_nil)) (sem_tup sem_nil))) (sem_sone (sem_ret (sem_tup (sem_cons (sem_val C.val_NOBODY) (sem_cons sem_int (sem_cons sem_int (sem_cons sem_int (sem_cons (sem_var (i := 7)) (sem_cons (sem_call (fn_fetch_days C) (hr.mono (by first | decide | omega)) (sem_cons (sem_var (i := 0)) (sem_cons (sem_val C.val_NOBODY) (sem_cons (sem_var (i := 7)) sem_nil)))) (sem_cons (sem_var (i := 14)) sem_nil))))))))))) sem_snil) (sem_scons (sem_sif (sem_cmpT hr (sem_var (i := 10)) sem_str) (sem_scons (sem_set (i := 8) sc_done.nd (sem_if (sem_w (sem_andW (sem_cmpT hr (sem_var (i := 3)) (sem_val C.val_NOBODY)) (sem_and1 (sem_cmpT hr (sem_var (i := 7)) (sem_tup sem_nil))))) (sem_ix (sem_var (i := 0)) sem_int) (sem_var (i := 8)))) (sem_scons (sem_set (i := 7) sc_done.nd (sem_bin (sem_var (i := 7)) (sem_tup (sem_cons (sem_ix (sem_var (i := 2)) sem_int) sem_nil)))) (sem_sone (sem_ret (sem_tup (sem_cons (sem_var (i := 3)) (sem_cons (sem_call (fn_called C) (hr.mono (by first | decide | omega)) (sem_cons (sem_var (i := 0)) (sem_cons (sem_var (i := 4)) (sem_cons (sem_var (i := 7)) sem_nil)))) (sem_cons (sem_var (i := 5)) (sem_cons (sem_var (i := 6)) (sem_cons (sem_var (i := 7)) (sem_cons (sem_var (i := 8)) (sem_cons (sem_var (i := 9)) sem_nil)))))))))))) sem_snil) (sem_scons (sem_set (i := 11) sc_done.nd (sem_ty call_tupleD rfl C.free_tuple boot_tuple (sem_cons (sem_lc (T := (.one 12)) (own := [("reader", 12)]) sc_done.nd (sem_iter (sem_var (i := 7))) (blkOk_by (own := [("reader", 12)]) (N := N_done) (sc := defScope s_done) (by decide +kernel)) (by decide) (fun _ _ _ _ _ => (tg_one sc_done.nd)) (fun _ _ _ _ _ => (sem_ts1 (sem_cmpT hr (sem_var (i := 12)) (sem_ix (sem_var (i := 2)) sem_int)))) (fun _ _ _ _ _ => (sem_var (i := 12)))) sem_nil))) (sem_scons (sem_sif (sem_cmpT hr (sem_ix (sem_var (i := 7)) sem_int) (sem_ix (sem_var (i := 2)) sem_int)) (sem_sone (sem_set (i := 8) sc_done.nd (sem_call (fn_fetch_days C) (hr.mono (by first | decide | omega)) (sem_cons (sem_var (i := 0)) (sem_cons (sem_var (i := 3)) (sem_cons (sem_var (i := 11)) sem_nil)))))) sem_snil) (sem_sone (sem_ret (sem_tup (sem_cons (sem_var (i := 3)) (sem_cons (sem_var (i := 4)) (sem_cons (sem_var (i := 5)) (sem_cons (sem_var (i := 6)) (sem_cons (sem_var (i := 11)) (sem_cons (sem_var (i := 8)) (sem_cons (sem_var (i := 9)) sem_nil)))))))))))))))))))
theorem fn_is_deed (C : Fct K mg) : FnF P w K mg base 4 "is_deed" 4 (spP K mg 4 m_is_deed) :=
  fnF_pure C.fun_is_deed sc_is_deed C.glo_is_deed rfl (fun _ _ _ _ _ _ us hl => match us, hl with | [_, _, _, _], _ => rfl) fun cdv A outer s H E hr =>
  (sem_scons (sem_sif (sem_w (sem_orW (sem_notT (sem_valT (sem_call (fn_is_tuple C) (hr.mono (by first | decide | omega)) (sem_cons (sem_var (i := 3)) (sem_cons sem_int (sem_cons sem_int sem_nil)))))) (sem_or1 (sem_notT (sem_valT (sem_isi .str C.free_isinstance C.free_str boot_str (sem_ix (sem_var (i := 3)) sem_int))))))) (sem_sone (sem_ret sem_bl)) sem_snil) (sem_scons (sem_sif (sem_w (sem_andW (sem_cmpT hr (sem_blt call_lenD rfl C.free_len boot_len (sem_cons (sem_var (i := 3)) sem_nil)) sem_int) (sem_and1 (sem_notT (sem_valT (sem_call (fn_is_from C) (hr.mono (by first | decide | omega)) (sem_cons (sem_ix (sem_var (i := 3)) sem_int) (sem_cons sem_int (sem_cons (sem_bin (sem_var (i := 1)) sem_int) sem_nil))))))))) (sem_sone (sem_ret sem_bl)) sem_snil) (sem_sone (sem_ret (sem_cmp hr (sem_var (i := 3)) (sem_call (fn_deeds_at C) (hr.mono (by first | decide | omega)) (sem_cons (sem_var (i := 0)) (sem_cons (sem_var (i := 1)) (sem_cons (sem_var (i := 2)) sem_nil)))))))))
theorem fn_led (C : Fct K mg) : FnF P w K mg base 5 "led" 3 (spP K mg 3 m_led) :=
  fnF_pure C.fun_led sc_led C.glo_led rfl (fun _ _ _ _ _ _ us hl => match us, hl with | [_, _, _], _ => rfl) fun cdv A outer s H E hr =>
  (sem_scons (sem_new (i := 3) sc_led.nd (sem_cons (sem_val C.val_FIRST) sem_nil)) (sem_scons (sem_for (T := (.one 4)) (sem_iter (sem_var (i := 2))) (tg_one sc_led.nd) (sem_scons (sem_sif (sem_borT 3 (sem_notT (sem_valT (sem_call (fn_is_deed C) (hr.mono (by first | decide | omega)) (sem_cons (sem_var (i := 0)) (sem_cons (sem_var (i := 1)) (sem_cons (sem_ix (sem_var (i := 3)) (sem_neg sem_int)) (sem_cons (sem_var (i := 4)) sem_nil)))))))) (sem_sone (sem_ret sem_non)) sem_snil) (sem_sone (sem_app (i := 3) (sem_call (fn_done C) (hr.mono (by first | decide | omega)) (sem_cons (sem_var (i := 0)) (sem_cons (sem_ix (sem_var (i := 3)) (sem_neg sem_int)) (sem_cons (sem_var (i := 4)) sem_nil)))))))) (sem_sone (sem_rel 3 (sem_ret (sem_var (i := 3)))))))
theorem fn_has_row (C : Fct K mg) : FnF P w K mg base 6 "has_row" 3 (spP K mg 3 m_has_row) :=
  fnF_pure C.fun_has_row sc_has_row C.glo_has_row rfl (fun _ _ _ _ _ _ us hl => match us, hl with | [_, _, _], _ => rfl) fun cdv A outer s H E hr =>
  (sem_sone (sem_ret (sem_and (sem_call (fn_is_tuple C) (hr.mono (by first | decide | omega)) (sem_cons (sem_var (i := 2)) (sem_cons sem_int (sem_cons (sem_val C.val_MOST_DEEDS) sem_nil)))) (sem_one (sem_notN (sem_call (fn_led C) (hr.mono (by first | decide | omega)) (sem_cons (sem_var (i := 0)) (sem_cons (sem_var (i := 1)) (sem_cons (sem_var (i := 2)) sem_nil)))))))))
theorem fn_need_row (C : Fct K mg) : FnF P w K mg base 7 "need_row" 3 (spP K mg 3 m_need_row) :=
  fnF_pure C.fun_need_row sc_need_row C.glo_need_row rfl (fun _ _ _ _ _ _ us hl => match us, hl with | [_, _, _], _ => rfl) fun cdv A outer s H E hr =>
  (sem_sone (sem_sif (sem_notT (sem_valT (sem_call (fn_has_row C) (hr.mono (by first | decide | omega)) (sem_cons (sem_var (i := 0)) (sem_cons (sem_var (i := 1)) (sem_cons (sem_var (i := 2)) sem_nil)))))) (sem_sone (sem_raise C.exc_InvalidRow)) sem_snil))
theorem fn_possible (C : Fct K mg) : FnF P w K mg base 8 "possible" 3 (spP K mg 3 m_possible) :=
  fnF_pure C.fun_possible sc_possible C.glo_possible rfl (fun _ _ _ _ _ _ us hl => match us, hl with | [_, _, _], _ => rfl) fun cdv A outer s H E hr =>
  (sem_scons (sem_expr (sem_call (fn_need_both C) (hr.mono (by first | decide | omega)) (sem_cons (sem_var (i := 0)) (sem_cons (sem_var (i := 1)) sem_nil)))) (sem_scons (sem_expr (sem_call (fn_need_row C) (hr.mono (by first | decide | omega)) (sem_cons (sem_var (i := 0)) (sem_cons (sem_var (i := 1)) (sem_cons (sem_var (i := 2)) sem_nil))))) (sem_sone (sem_ret (sem_call (fn_deeds_at C) (hr.mono (by first | decide | omega)) (sem_cons (sem_var (i := 0)) (sem_cons (sem_var (i := 1)) (sem_cons (sem_ix (sem_call (fn_led C) (hr.mono (by first | decide | omega)) (sem_cons (sem_var (i := 0)) (sem_cons (sem_var (i := 1)) (sem_cons (sem_var (i := 2)) sem_nil)))) (sem_neg sem_int)) sem_nil))))))))
theorem fn_after (C : Fct K mg) : FnF P w K mg base 8 "after" 4 (spP K mg 4 m_after) :=
  fnF_pure C.fun_after sc_after C.glo_after rfl (fun _ _ _ _ _ _ us hl => match us, hl with | [_, _, _, _], _ => rfl) fun cdv A outer s H E hr =>
  (sem_scons (sem_expr (sem_call (fn_need_both C) (hr.mono (by first | decide | omega)) (sem_cons (sem_var (i := 0)) (sem_cons (sem_var (i := 1)) sem_nil)))) (sem_scons (sem_expr (sem_call (fn_need_row C) (hr.mono (by first | decide | omega)) (sem_cons (sem_var (i := 0)) (sem_cons (sem_var (i := 1)) (sem_cons (sem_var (i := 2)) sem_nil))))) (sem_scons (sem_set (i := 4) sc_after.nd (sem_ix (sem_call (fn_led C) (hr.mono (by first | decide | omega)) (sem_cons (sem_var (i := 0)) (sem_cons (sem_var (i := 1)) (sem_cons (sem_var (i := 2)) sem_nil)))) (sem_neg sem_int))) (sem_scons (sem_sif (sem_notT (sem_valT (sem_call (fn_is_deed C) (hr.mono (by first | decide | omega)) (sem_cons (sem_var (i := 0)) (sem_cons (sem_var (i := 1)) (sem_cons (sem_var (i := 4)) (sem_cons (sem_var (i := 3)) sem_nil))))))) (sem_sone (sem_raise C.exc_InvalidDeed)) sem_snil) (sem_sone (sem_ret (sem_call (fn_done C) (hr.mono (by first | decide | omega)) (sem_cons (sem_var (i := 0)) (sem_cons (sem_var (i := 4)) (sem_cons (sem_var (i := 3)) sem_nil))))))))))
theorem fn_law_source (C : Fct K mg) : FnF P w K mg base 1 "_law_source" 2 (spN K) :=
  fnF_source C.fun_law_source sc_law_source C.glo_law_source (fun _ _ _ _ _ _ us hl => match us, hl with | [_, _], _ => rfl) fun cdv A outer s H E hr W tk =>
  (pss_cons (ofS tk (sem_set (i := 2) sc_law_source.nd (sem_if (sem_cmpT hr (sem_var (i := 1)) (sem_blt call_lenD rfl C.free_len boot_len (sem_cons (sem_var (i := 0)) sem_nil))) (sem_blt call_absD rfl C.free_abs boot_abs (sem_cons (sem_ty call_intD rfl C.free_int boot_int (sem_cons (sem_ix (sem_var (i := 0)) (sem_var (i := 1))) sem_nil)) sem_nil)) (sem_bin (sem_bin sem_int (sem_var (i := 1))) sem_int)))) (pss_one (ps_ret (pe_lst (ofA tk (sem_cons (sem_if (sem_cmpT hr (sem_var (i := 2)) (sem_bin sem_int sem_int)) (sem_var (i := 2)) sem_int) (sem_cons (sem_bin (sem_ty call_intD rfl C.free_int boot_int (sem_cons (sem_bin (sem_bin (sem_bin (sem_var (i := 2)) sem_int) (sem_bin sem_int (sem_var (i := 1)))) sem_int) sem_nil)) sem_int) sem_nil)))))))
theorem fn_law_draw (C : Fct K mg) : FnF P w K mg base 1 "_law_draw" 2 (spS K mg 1 m_draw) :=
  fnF_draw C.fun_law_draw sc_law_draw C.glo_law_draw (fun _ _ _ _ _ _ us hl => match us, hl with | [_, _], _ => rfl) fun cdv A outer s H E hr W tk =>
  (pss_cons (ps_if (ofT tk (sem_cmpT hr (sem_ix (sem_var (i := 0)) sem_int) sem_int)) (pss_cons (ps_set (i := 2) sc_law_draw.nd rfl (Or.inl rfl) (ofE tk (sem_bin (sem_ty call_intD rfl C.free_int boot_int (sem_cons (sem_ix (sem_var (i := 0)) sem_int) sem_nil)) (sem_var (i := 1))))) (pss_cons (ps_asg (ofE tk (sem_bin (sem_ix (sem_var (i := 0)) sem_int) (sem_var (i := 1)))) (pg_sub (pv 0) (ofE tk sem_int) set_list)) (pss_one (ofS tk (sem_ret (sem_var (i := 2))))))) pss_nil) (pss_cons (ps_asg (ofE tk (sem_bin (sem_ty call_intD rfl C.free_int boot_int (sem_cons (sem_bin (sem_bin (sem_ix (sem_var (i := 0)) sem_int) sem_int) sem_int) sem_nil)) sem_int)) (pg_sub (pv 0) (ofE tk sem_int) set_list)) (ofB tk (sem_scons (sem_set (i := 3) sc_law_draw.nd (sem_bin (sem_ty call_intD rfl C.free_int boot_int (sem_cons (sem_bin (sem_ix (sem_var (i := 0)) sem_int) (sem_bin (sem_bin (sem_ix (sem_var (i := 0)) sem_int) sem_int) sem_int)) sem_nil)) sem_int)) (sem_sone (sem_ret (sem_bin (sem_ty call_intD rfl C.free_int boot_int (sem_cons (sem_bin (sem_var (i := 3)) sem_int) sem_nil)) (sem_var (i := 1)))))))))
theorem fn_law_choice (C : Fct K mg) : FnF P w K mg base 2 "_law_choice" 2 (spS K mg 1 m_law_choice) :=
  fnF_src C.fun_law_choice sc_law_choice C.glo_law_choice rfl (fun _ _ _ _ _ _ us hl => match us, hl with | [_, _], _ => rfl) fun cdv A outer s H E hr =>
  (sem_sone (sem_ret (sem_ix (sem_var (i := 1)) (sem_callS (i := 0) (fn_law_draw C) (hr.mono (by first | decide | omega)) (sem_cons (sem_blt call_lenD rfl C.free_len boot_len (sem_cons (sem_var (i := 1)) sem_nil)) sem_nil)))))
theorem fn_law_values (C : Fct K mg) : FnF P w K mg base 1 "_law_values" 0 (spP K mg 0 m_law_values) :=
  fnF_pure C.fun_law_values sc_law_values C.glo_law_values rfl (fun _ _ _ _ _ _ us hl => match us, hl with | [], _ => rfl) fun cdv A outer s H E hr =>
  (sem_scons (sem_set (i := 0) sc_law_values.nd (sem_lst (sem_cons (sem_lst (sem_cons sem_int (sem_cons sem_int (sem_cons sem_int sem_nil)))) (sem_cons (sem_lst (sem_cons sem_int (sem_cons sem_int (sem_cons sem_int (sem_cons sem_int sem_nil))))) (sem_cons (sem_lst (sem_cons sem_str (sem_cons sem_str sem_nil))) (sem_cons (sem_lst (sem_cons sem_bl (sem_cons sem_bl sem_nil))) (sem_cons (sem_lst (sem_cons sem_int (sem_cons sem_int (sem_cons sem_int sem_nil)))) sem_nil))))))) (sem_sone (sem_ret (sem_bin (sem_var (i := 0)) (sem_lst (sem_cons (sem_lst (sem_cons sem_str (sem_cons sem_str sem_nil))) (sem_cons (sem_lst (sem_cons sem_int (sem_cons sem_int sem_nil))) (sem_cons (sem_lst (sem_cons sem_str (sem_cons sem_str sem_nil))) (sem_cons (sem_lst (sem_cons sem_bl (sem_cons sem_bl sem_nil))) sem_nil)))))))))
theorem fn_law_rule (C : Fct K mg) : FnF P w K mg base 3 "_law_rule" 1 (spS K mg 0 m_law_rule) :=
  fnF_src C.fun_law_rule sc_law_rule C.glo_law_rule rfl (fun _ _ _ _ _ _ us hl => match us, hl with | [_], _ => rfl) fun cdv A outer s H E hr =>
  (sem_sone (sem_ret (sem_ty call_tupleD rfl C.free_tuple boot_tuple (sem_cons (sem_lc (T := (.one 1)) (own := [("some", 1)]) sc_law_rule.nd (sem_iter (sem_call0 (fn_law_values C) (hr.mono (by first | decide | omega)))) (blkOk_by (own := [("some", 1)]) (N := N_law_rule) (sc := defScope s_law_rule) (by decide +kernel)) (by decide) (fun _ _ _ _ _ => (tg_one sc_law_rule.nd)) (fun _ _ _ _ _ => sem_ts0) (fun _ _ _ _ _ => (sem_callS (i := 0) (fn_law_choice C) (hr.mono (by first | decide | omega)) (sem_cons (sem_var (i := 1)) sem_nil)))) sem_nil))))
theorem fn_law_taken (C : Fct K mg) : FnF P w K mg base 1 "_law_taken" 3 (spP K mg 3 m_law_taken) :=
  fnF_pure C.fun_law_taken sc_law_taken C.glo_law_taken rfl (fun _ _ _ _ _ _ us hl => match us, hl with | [_, _, _], _ => rfl) fun cdv A outer s H E hr =>
  (sem_scons (sem_asg (T := (.many [3, 4, 5, 6, 7, 8, 9])) (tg_many rfl (.cons (i := 3) sc_law_taken.nd rfl (by first | exact Or.inl rfl | exact Or.inr rfl) (by first | exact Or.inl rfl | exact Or.inr rfl) rfl (.cons (i := 4) sc_law_taken.nd rfl (by first | exact Or.inl rfl | exact Or.inr rfl) (by first | exact Or.inl rfl | exact Or.inr rfl) rfl (.cons (i := 5) sc_law_taken.nd rfl (by first | exact Or.inl rfl | exact Or.inr rfl) (by first | exact Or.inl rfl | exact Or.inr rfl) rfl (.cons (i := 6) sc_law_taken.nd rfl (by first | exact Or.inl rfl | exact Or.inr rfl) (by first | exact Or.inl rfl | exact Or.inr rfl) rfl (.cons (i := 7) sc_law_taken.nd rfl (by first | exact Or.inl rfl | exact Or.inr rfl) (by first | exact Or.inl rfl | exact Or.inr rfl) rfl (.cons (i := 8) sc_law_taken.nd rfl (by first | exact Or.inl rfl | exact Or.inr rfl) (by first | exact Or.inl rfl | exact Or.inr rfl) rfl (.cons (i := 9) sc_law_taken.nd rfl (by first | exact Or.inl rfl | exact Or.inr rfl) (by first | exact Or.inl rfl | exact Or.inr rfl) rfl .nil)))))))) (sem_var (i := 1))) (sem_scons (sem_sif (sem_w (sem_orW (sem_cmpT hr (sem_var (i := 3)) sem_int) (sem_orW (sem_cmpT hr (sem_var (i := 2)) (sem_var (i := 9))) (sem_or1 (sem_w (sem_andW (sem_cmpT hr (sem_ix (sem_var (i := 0)) sem_int) sem_str) (sem_andW (sem_cmpT hr (sem_var (i := 7)) (sem_tup sem_nil)) (sem_and1 (sem_cmpT hr (sem_ix (sem_var (i := 7)) sem_int) (sem_var (i := 2))))))))))) (sem_sone (sem_ret sem_non)) sem_snil) (sem_scons (sem_set (i := 10) sc_law_taken.nd (sem_ty call_tupleD rfl C.free_tuple boot_tuple (sem_cons (sem_lc (T := (.one 11)) (own := [("one", 11)]) sc_law_taken.nd (sem_iter (sem_var (i := 7))) (blkOk_by (own := [("one", 11)]) (N := N_law_taken) (sc := defScope s_law_taken) (by decide +kernel)) (by decide) (fun _ _ _ _ _ => (tg_one sc_law_taken.nd)) (fun _ _ _ _ _ => (sem_ts1 (sem_cmpT hr (sem_var (i := 11)) (sem_var (i := 2))))) (fun _ _ _ _ _ => (sem_var (i := 11)))) sem_nil))) (sem_scons (sem_set (i := 12) sc_law_taken.nd (sem_and (sem_cmp hr (sem_var (i := 10)) (sem_tup sem_nil)) (sem_one (sem_chain hr sem_int (sem_ix (sem_var (i := 0)) sem_int) (sem_ix (sem_var (i := 0)) sem_int))))) (sem_sone (sem_ret (sem_tup (sem_cons (sem_var (i := 2)) (sem_cons (sem_if (sem_valT (sem_var (i := 12))) (sem_ix (sem_var (i := 0)) sem_int) (sem_ix (sem_var (i := 0)) sem_int)) (sem_cons sem_int (sem_cons (sem_ix (sem_var (i := 0)) sem_int) (sem_cons (sem_var (i := 10)) (sem_cons sem_int (sem_cons (sem_var (i := 9)) sem_nil))))))))))))))
theorem fn_law_renewed (C : Fct K mg) : FnF P w K mg base 1 "_law_renewed" 2 (spP K mg 2 m_law_renewed) :=
  fnF_pure C.fun_law_renewed sc_law_renewed C.glo_law_renewed rfl (fun _ _ _ _ _ _ us hl => match us, hl with | [_, _], _ => rfl) fun cdv A outer s H E hr =>
  (sem_scons (sem_asg (T := (.many [2, 3, 4, 5, 6, 7, 8])) (tg_many rfl (.cons (i := 2) sc_law_renewed.nd rfl (by first | exact Or.inl rfl | exact Or.inr rfl) (by first | exact Or.inl rfl | exact Or.inr rfl) rfl (.cons (i := 3) sc_law_renewed.nd rfl (by first | exact Or.inl rfl | exact Or.inr rfl) (by first | exact Or.inl rfl | exact Or.inr rfl) rfl (.cons (i := 4) sc_law_renewed.nd rfl (by first | exact Or.inl rfl | exact Or.inr rfl) (by first | exact Or.inl rfl | exact Or.inr rfl) rfl (.cons (i := 5) sc_law_renewed.nd rfl (by first | exact Or.inl rfl | exact Or.inr rfl) (by first | exact Or.inl rfl | exact Or.inr rfl) rfl (.cons (i := 6) sc_law_renewed.nd rfl (by first | exact Or.inl rfl | exact Or.inr rfl) (by first | exact Or.inl rfl | exact Or.inr rfl) rfl (.cons (i := 7) sc_law_renewed.nd rfl (by first | exact Or.inl rfl | exact Or.inr rfl) (by first | exact Or.inl rfl | exact Or.inr rfl) rfl (.cons (i := 8) sc_law_renewed.nd rfl (by first | exact Or.inl rfl | exact Or.inr rfl) (by first | exact Or.inl rfl | exact Or.inr rfl) rfl .nil)))))))) (sem_var (i := 1))) (sem_scons (sem_set (i := 9) sc_law_renewed.nd (sem_bin (sem_ix (sem_var (i := 0)) sem_int) (sem_dsel hr (sem_p1 (sem_var (i := 3)) (sem_p1 sem_int sem_p0)) (sem_ix (sem_var (i := 0)) sem_int)))) (sem_scons (sem_sif (sem_w (sem_orW (sem_cmpT hr (sem_var (i := 2)) sem_int) (sem_orW (sem_cmpT hr (sem_var (i := 3)) sem_int) (sem_orW (sem_cmpT hr (sem_var (i := 9)) sem_int) (sem_orW (sem_w (sem_andW (sem_cmpT hr (sem_ix (sem_var (i := 0)) sem_int) sem_int) (sem_and1 (sem_cmpT hr (sem_var (i := 4)) (sem_ix (sem_var (i := 0)) sem_int))))) (sem_or1 (sem_w (sem_andW (sem_valT (sem_ix (sem_var (i := 0)) sem_int)) (sem_and1 (sem_cmpT hr (sem_var (i := 6)) (sem_tup sem_nil))))))))))) (sem_sone (sem_ret sem_non)) sem_snil) (sem_scons (sem_set (i := 10) sc_law_renewed.nd (sem_and (sem_cmp hr (sem_var (i := 6)) (sem_tup sem_nil)) (sem_one (sem_chain hr sem_int (sem_ix (sem_var (i := 0)) sem_int) (sem_var (i := 9)))))) (sem_sone (sem_ret (sem_tup (sem_cons (sem_var (i := 2)) (sem_cons (sem_if (sem_valT (sem_var (i := 10))) (sem_ix (sem_var (i := 0)) sem_int) (sem_var (i := 9))) (sem_cons (sem_if (sem_cmpT hr (sem_ix (sem_var (i := 0)) sem_int) sem_int) sem_int (sem_bin (sem_var (i := 4)) sem_int)) (sem_cons (sem_var (i := 9)) (sem_cons (sem_var (i := 6)) (sem_cons sem_int (sem_cons (sem_var (i := 8)) sem_nil))))))))))))))
theorem fn_law_night (C : Fct K mg) : FnF P w K mg base 1 "_law_night" 2 (spP K mg 2 m_law_night) :=
  fnF_pure C.fun_law_night sc_law_night C.glo_law_night rfl (fun _ _ _ _ _ _ us hl => match us, hl with | [_, _], _ => rfl) fun cdv A outer s H E hr =>
  (sem_scons (sem_asg (T := (.many [2, 3, 4, 5, 6, 7, 8])) (tg_many rfl (.cons (i := 2) sc_law_night.nd rfl (by first | exact Or.inl rfl | exact Or.inr rfl) (by first | exact Or.inl rfl | exact Or.inr rfl) rfl (.cons (i := 3) sc_law_night.nd rfl (by first | exact Or.inl rfl | exact Or.inr rfl) (by first | exact Or.inl rfl | exact Or.inr rfl) rfl (.cons (i := 4) sc_law_night.nd rfl (by first | exact Or.inl rfl | exact Or.inr rfl) (by first | exact Or.inl rfl | exact Or.inr rfl) rfl (.cons (i := 5) sc_law_night.nd rfl (by first | exact Or.inl rfl | exact Or.inr rfl) (by first | exact Or.inl rfl | exact Or.inr rfl) rfl (.cons (i := 6) sc_law_night.nd rfl (by first | exact Or.inl rfl | exact Or.inr rfl) (by first | exact Or.inl rfl | exact Or.inr rfl) rfl (.cons (i := 7) sc_law_night.nd rfl (by first | exact Or.inl rfl | exact Or.inr rfl) (by first | exact Or.inl rfl | exact Or.inr rfl) rfl (.cons (i := 8) sc_law_night.nd rfl (by first | exact Or.inl rfl | exact Or.inr rfl) (by first | exact Or.inl rfl | exact Or.inr rfl) rfl .nil)))))))) (sem_var (i := 1))) (sem_scons (sem_sif (sem_cmpT hr (sem_var (i := 2)) sem_int) (sem_sone (sem_ret (sem_tup (sem_cons (sem_var (i := 2)) (sem_cons (sem_if (sem_cmpT hr (sem_var (i := 3)) (sem_neg sem_int)) (sem_bin (sem_var (i := 3)) sem_int) (sem_neg sem_int)) (sem_cons (sem_var (i := 4)) (sem_cons (sem_if (sem_cmpT hr (sem_var (i := 5)) sem_int) (sem_bin (sem_var (i := 5)) sem_int) sem_int) (sem_cons (sem_var (i := 6)) (sem_cons sem_int (sem_cons (sem_tup sem_nil) sem_nil)))))))))) sem_snil) (sem_scons (sem_sif (sem_w (sem_andW (sem_cmpT hr (sem_var (i := 6)) (sem_tup sem_nil)) (sem_and1 (sem_cmpT hr (sem_var (i := 7)) sem_int)))) (sem_scons (sem_set (i := 6) sc_law_night.nd (sem_if (sem_cmpT hr (sem_ix (sem_var (i := 0)) sem_int) sem_str) (sem_bin (sem_slice (sem_var (i := 6)) (sem_some sem_int) sem_none) (sem_slice (sem_var (i := 6)) sem_none (sem_some sem_int))) (sem_slice (sem_var (i := 6)) (sem_some sem_int) sem_none))) (sem_sone (sem_set (i := 7) sc_law_night.nd (sem_bin (sem_ix (sem_var (i := 0)) sem_int) sem_int)))) sem_snil) (sem_sone (sem_ret (sem_tup (sem_cons (sem_neg sem_int) (sem_cons sem_int (sem_cons sem_int (sem_cons sem_int (sem_cons (sem_var (i := 6)) (sem_cons (sem_if (sem_cmpT hr (sem_var (i := 6)) (sem_tup sem_nil)) (sem_bin (sem_var (i := 7)) sem_int) sem_int) (sem_cons (sem_tup sem_nil) sem_nil)))))))))))))
theorem fn_law_done (C : Fct K mg) : FnF P w K mg base 2 "_law_done" 4 (spP K mg 4 m_law_done) :=
  fnF_pure C.fun_law_done sc_law_done C.glo_law_done rfl (fun _ _ _ _ _ _ us hl => match us, hl with | [_, _, _, _], _ => rfl) fun cdv A outer s H E hr =>
  (sem_scons (sem_asg (T := (.many [4, 5, 6, 7, 8, 9, 10])) (tg_many rfl (.cons (i := 4) sc_law_done.nd rfl (by first | exact Or.inl rfl | exact Or.inr rfl) (by first | exact Or.inl rfl | exact Or.inr rfl) rfl (.cons (i := 5) sc_law_done.nd rfl (by first | exact Or.inl rfl | exact Or.inr rfl) (by first | exact Or.inl rfl | exact Or.inr rfl) rfl (.cons (i := 6) sc_law_done.nd rfl (by first | exact Or.inl rfl | exact Or.inr rfl) (by first | exact Or.inl rfl | exact Or.inr rfl) rfl (.cons (i := 7) sc_law_done.nd rfl (by first | exact Or.inl rfl | exact Or.inr rfl) (by first | exact Or.inl rfl | exact Or.inr rfl) rfl (.cons (i := 8) sc_law_done.nd rfl (by first | exact Or.inl rfl | exact Or.inr rfl) (by first | exact Or.inl rfl | exact Or.inr rfl) rfl (.cons (i := 9) sc_law_done.nd rfl (by first | exact Or.inl rfl | exact Or.inr rfl) (by first | exact Or.inl rfl | exact Or.inr rfl) rfl (.cons (i := 10) sc_law_done.nd rfl (by first | exact Or.inl rfl | exact Or.inr rfl) (by first | exact Or.inl rfl | exact Or.inr rfl) rfl .nil)))))))) (sem_var (i := 2))) (sem_scons (sem_sif (sem_cmpT hr (sem_ix (sem_var (i := 3)) sem_int) sem_str) (sem_sone (sem_ret (sem_call (fn_law_night C) (hr.mono (by first | decide | omega)) (sem_cons (sem_var (i := 0)) (sem_cons (sem_var (i := 2)) sem_nil))))) sem_snil) (sem_scons (sem_sif (sem_cmpT hr (sem_ix (sem_var (i := 3)) sem_int) sem_str) (sem_sone (sem_ret (sem_call (fn_law_taken C) (hr.mono (by first | decide | omega)) (sem_cons (sem_var (i := 0)) (sem_cons (sem_var (i := 2)) (sem_cons (sem_ix (sem_var (i := 3)) sem_int) sem_nil)))))) sem_snil) (sem_scons (sem_sif (sem_cmpT hr (sem_ix (sem_var (i := 3)) sem_int) sem_str) (sem_sone (sem_ret (sem_call (fn_law_renewed C) (hr.mono (by first | decide | omega)) (sem_cons (sem_var (i := 0)) (sem_cons (sem_var (i := 2)) sem_nil))))) sem_snil) (sem_scons (sem_sif (sem_cmpT hr (sem_ix (sem_var (i := 3)) sem_int) sem_str) (sem_scons (sem_set (i := 11) sc_law_done.nd (sem_if (sem_valT (sem_ix (sem_var (i := 0)) sem_int)) (sem_ty call_tupleD rfl C.free_tuple boot_tuple (sem_cons (sem_sorted hr C.free_sorted (sem_cons (sem_bin (sem_var (i := 10)) (sem_tup (sem_cons (sem_var (i := 4)) sem_nil))) sem_nil)) sem_nil)) (sem_tup sem_nil))) (sem_sone (sem_ret (sem_if (sem_cmpT hr (sem_var (i := 4)) sem_int) (sem_tup (sem_cons (sem_neg sem_int) (sem_cons sem_int (sem_cons sem_int (sem_cons sem_int (sem_cons (sem_var (i := 8)) (sem_cons (sem_bin (sem_ix (sem_var (i := 0)) sem_int) (sem_ty call_intD rfl C.free_int boot_int (sem_cons (sem_cmp hr (sem_var (i := 8)) (sem_tup sem_nil)) sem_nil))) (sem_cons (sem_var (i := 11)) sem_nil)))))))) sem_non)))) sem_snil) (sem_scons (sem_sif (sem_cmpT hr (sem_ix (sem_var (i := 3)) sem_int) sem_str) (sem_scons (sem_sif (sem_w (sem_orW (sem_cmpT hr (sem_ix (sem_var (i := 3)) sem_int) (sem_var (i := 4))) (sem_or1 (sem_cmpT hr (sem_ix (sem_var (i := 3)) sem_int) (sem_var (i := 8)))))) (sem_sone (sem_ret sem_non)) sem_snil) (sem_scons (sem_set (i := 9) sc_law_done.nd (sem_if (sem_w (sem_andW (sem_cmpT hr (sem_var (i := 4)) sem_int) (sem_and1 (sem_cmpT hr (sem_var (i := 8)) (sem_tup sem_nil))))) (sem_ix (sem_var (i := 0)) sem_int) (sem_var (i := 9)))) (sem_scons (sem_set (i := 5) sc_law_done.nd (sem_if (sem_chainT hr sem_int (sem_ix (sem_var (i := 0)) sem_int) (sem_var (i := 5))) (sem_ix (sem_var (i := 0)) sem_int) (sem_var (i := 5)))) (sem_sone (sem_ret (sem_tup (sem_cons (sem_var (i := 4)) (sem_cons (sem_var (i := 5)) (sem_cons (sem_var (i := 6)) (sem_cons (sem_var (i := 7)) (sem_cons (sem_bin (sem_var (i := 8)) (sem_tup (sem_cons (sem_ix (sem_var (i := 3)) sem_int) sem_nil))) (sem_cons (sem_var (i := 9)) (sem_cons (sem_var (i := 10)) sem_nil))))))))))))) sem_snil) (sem_scons (sem_sif (sem_cmpT hr (sem_ix (sem_var (i := 3)) sem_int) (sem_var (i := 8))) (sem_sone (sem_ret sem_non)) sem_snil) (sem_scons (sem_set (i := 12) sc_law_done.nd (sem_ty call_tupleD rfl C.free_tuple boot_tuple (sem_cons (sem_lc (T := (.one 13)) (own := [("one", 13)]) sc_law_done.nd (sem_iter (sem_var (i := 8))) (blkOk_by (own := [("one", 13)]) (N := N_law_done) (sc := defScope s_law_done) (by decide +kernel)) (by decide) (fun _ _ _ _ _ => (tg_one sc_law_done.nd)) (fun _ _ _ _ _ => (sem_ts1 (sem_cmpT hr (sem_var (i := 13)) (sem_ix (sem_var (i := 3)) sem_int)))) (fun _ _ _ _ _ => (sem_var (i := 13)))) sem_nil))) (sem_scons (sem_sif (sem_w (sem_andW (sem_cmpT hr (sem_ix (sem_var (i := 8)) sem_int) (sem_ix (sem_var (i := 3)) sem_int)) (sem_and1 (sem_cmpT hr (sem_var (i := 4)) sem_int)))) (sem_sone (sem_set (i := 9) sc_law_done.nd (sem_bin (sem_ix (sem_var (i := 0)) sem_int) (sem_ty call_intD rfl C.free_int boot_int (sem_cons (sem_cmp hr (sem_var (i := 12)) (sem_tup sem_nil)) sem_nil))))) sem_snil) (sem_sone (sem_ret (sem_tup (sem_cons (sem_var (i := 4)) (sem_cons (sem_var (i := 5)) (sem_cons (sem_var (i := 6)) (sem_cons (sem_var (i := 7)) (sem_cons (sem_var (i := 12)) (sem_cons (sem_var (i := 9)) (sem_cons (sem_var (i := 10)) sem_nil)))))))))))))))))))
theorem fn_law_deeds (C : Fct K mg) : FnF P w K mg base 1 "_law_deeds" 1 (spP K mg 1 m_law_deeds) :=
  fnF_pure C.fun_law_deeds sc_law_deeds C.glo_law_deeds rfl (fun _ _ _ _ _ _ us hl => match us, hl with | [_], _ => rfl) fun cdv A outer s H E hr =>
  (sem_scons (sem_set (i := 1) sc_law_deeds.nd (sem_lst (sem_cons (sem_tup (sem_cons sem_str sem_nil)) (sem_cons (sem_tup (sem_cons sem_str sem_nil)) (sem_cons (sem_tup (sem_cons sem_str sem_nil)) sem_nil))))) (sem_scons (sem_for (T := (.one 2)) (sem_iter (sem_lst (sem_cons sem_str (sem_cons sem_str (sem_cons sem_str sem_nil))))) (tg_one sc_law_deeds.nd) (sem_sone (sem_set (i := 1) sc_law_deeds.nd (sem_bin (sem_var (i := 1)) (sem_lc (T := (.one 3)) (own := [("reader", 3)]) sc_law_deeds.nd (sem_range1 C.free_range (sem_var (i := 0))) (blkOk_by (own := [("reader", 3)]) (N := N_law_deeds) (sc := defScope s_law_deeds) (by decide +kernel)) (by decide) (fun _ _ _ _ _ => (tg_one sc_law_deeds.nd)) (fun _ _ _ _ _ => sem_ts0) (fun _ _ _ _ _ => (sem_tup (sem_cons (sem_var (i := 2)) (sem_cons (sem_var (i := 3)) sem_nil))))))))) (sem_sone (sem_ret (sem_sorted hr C.free_sorted (sem_cons (sem_var (i := 1)) sem_nil))))))
theorem fn_law_begun (C : Fct K mg) : FnF P w K mg base 1 "_law_begun" 0 (spP K mg 0 m_law_begun) :=
  fnF_pure C.fun_law_begun sc_law_begun C.glo_law_begun rfl (fun _ _ _ _ _ _ us hl => match us, hl with | [], _ => rfl) fun cdv A outer s H E hr =>
  (sem_sone (sem_ret (sem_tup (sem_cons (sem_neg sem_int) (sem_cons sem_int (sem_cons sem_int (sem_cons sem_int (sem_cons (sem_tup sem_nil) (sem_cons sem_int (sem_cons (sem_tup sem_nil) sem_nil))))))))))
theorem fn_law_led (C : Fct K mg) : FnF P w K mg base 3 "_law_led" 3 (spP K mg 3 m_law_led) :=
  fnF_pure C.fun_law_led sc_law_led C.glo_law_led rfl (fun _ _ _ _ _ _ us hl => match us, hl with | [_, _, _], _ => rfl) fun cdv A outer s H E hr =>
  (sem_scons (sem_new (i := 3) sc_law_led.nd (sem_cons (sem_call0 (fn_law_begun C) (hr.mono (by first | decide | omega))) sem_nil)) (sem_scons (sem_for (T := (.one 4)) (sem_iter (sem_var (i := 2))) (tg_one sc_law_led.nd) (sem_scons (sem_set (i := 5) sc_law_led.nd (sem_bor 3 (sem_call (fn_law_done C) (hr.mono (by first | decide | omega)) (sem_cons (sem_var (i := 0)) (sem_cons (sem_var (i := 1)) (sem_cons (sem_ix (sem_var (i := 3)) (sem_neg sem_int)) (sem_cons (sem_var (i := 4)) sem_nil))))))) (sem_scons (sem_app (i := 3) (sem_var (i := 5))) (sem_sone (sem_sif (sem_isNT (sem_var (i := 5))) (sem_sone (sem_rel 3 (sem_ret (sem_var (i := 3))))) sem_snil))))) (sem_sone (sem_rel 3 (sem_ret (sem_var (i := 3)))))))
theorem fn_law_row (C : Fct K mg) : FnF P w K mg base 3 "_law_row" 4 (spS K mg 3 m_law_row) :=
  fnF_src C.fun_law_row sc_law_row C.glo_law_row rfl (fun _ _ _ _ _ _ us hl => match us, hl with | [_, _, _, _], _ => rfl) fun cdv A outer s H E hr =>
  (sem_scons (sem_par (i := 4) (j := 5) sc_law_row.nd (sem_cons (sem_call0 (fn_law_begun C) (hr.mono (by first | decide | omega))) (sem_cons (sem_tup sem_nil) sem_nil))) (sem_scons (sem_for (T := (.one 6)) (sem_range1 C.free_range (sem_callS (i := 0) (fn_law_draw C) (hr.mono (by first | decide | omega)) (sem_cons (sem_bin (sem_var (i := 3)) sem_int) sem_nil))) (tg_one sc_law_row.nd) (sem_scons (sem_set (i := 7) sc_law_row.nd (sem_callS (i := 0) (fn_law_choice C) (hr.mono (by first | decide | omega)) (sem_cons (sem_bin (sem_call (fn_law_deeds C) (hr.mono (by first | decide | omega)) (sem_cons (sem_var (i := 2)) sem_nil)) (sem_lst (sem_cons (sem_tup (sem_cons sem_str sem_nil)) (sem_cons (sem_tup (sem_cons sem_str sem_nil)) (sem_cons (sem_tup (sem_cons sem_str (sem_cons sem_int sem_nil))) sem_nil))))) sem_nil))) (sem_scons (sem_set (i := 8) sc_law_row.nd (sem_call (fn_law_done C) (hr.mono (by first | decide | omega)) (sem_cons (sem_var (i := 1)) (sem_cons (sem_var (i := 2)) (sem_cons (sem_var (i := 4)) (sem_cons (sem_var (i := 7)) sem_nil)))))) (sem_sone (sem_sif (sem_notNT (sem_var (i := 8))) (sem_sone (sem_par (i := 4) (j := 5) sc_law_row.nd (sem_cons (sem_var (i := 8)) (sem_cons (sem_bin (sem_var (i := 5)) (sem_tup (sem_cons (sem_var (i := 7)) sem_nil))) sem_nil)))) sem_snil))))) (sem_sone (sem_ret (sem_var (i := 5))))))
theorem fn_law_tried (C : Fct K mg) : FnF P w K mg base 9 "_law_tried" 4 (spP K mg 4 m_law_tried) :=
  fnF_pure C.fun_law_tried sc_law_tried C.glo_law_tried rfl (fun _ _ _ _ _ _ us hl => match us, hl with | [_, _, _, _], _ => rfl) fun cdv A outer s H E hr =>
  (sem_scons (sem_set (i := 4) sc_law_tried.nd sem_str) (sem_scons (sem_try (fun _ _ => (sem_sone (sem_set (i := 4) sc_law_tried.nd (sem_call (fn_after C) (hr.mono (by first | decide | omega)) (sem_cons (sem_var (i := 0)) (sem_cons (sem_var (i := 1)) (sem_cons (sem_var (i := 2)) (sem_cons (sem_var (i := 3)) sem_nil)))))))) (semh_cons C.exm_InvalidDeed_InvalidDeed exml_nil (fun _ _ => (sem_sone (sem_set (i := 4) sc_law_tried.nd sem_str))) semh_nil)) (sem_sone (sem_ret (sem_var (i := 4))))))
theorem fn_law_right (C : Fct K mg) : FnF P w K mg base 10 "_law_right" 3 (spP K mg 3 m_law_right) :=
  fnF_pure C.fun_law_right sc_law_right C.glo_law_right rfl (fun _ _ _ _ _ _ us hl => match us, hl with | [_, _, _], _ => rfl) fun cdv A outer s H E hr =>
  (sem_scons (sem_parNew (i := 3) (j := 4) sc_law_right.nd (sem_ix (sem_call (fn_law_led C) (hr.mono (by first | decide | omega)) (sem_cons (sem_var (i := 0)) (sem_cons (sem_var (i := 1)) (sem_cons (sem_var (i := 2)) sem_nil)))) (sem_neg sem_int))) (sem_scons (sem_for (T := (.one 5)) (sem_iter (sem_call (fn_law_deeds C) (hr.mono (by first | decide | omega)) (sem_cons (sem_var (i := 1)) sem_nil))) (tg_one sc_law_right.nd) (sem_scons (sem_set (i := 6) sc_law_right.nd (sem_call (fn_law_done C) (hr.mono (by first | decide | omega)) (sem_cons (sem_var (i := 0)) (sem_cons (sem_var (i := 1)) (sem_cons (sem_var (i := 3)) (sem_cons (sem_var (i := 5)) sem_nil)))))) (sem_scons (sem_sif (sem_notNT (sem_var (i := 6))) (sem_sone (sem_app (i := 4) (sem_var (i := 5)))) sem_snil) (sem_sone (sem_sif (sem_cmpT hr (sem_call (fn_law_tried C) (hr.mono (by first | decide | omega)) (sem_cons (sem_var (i := 0)) (sem_cons (sem_var (i := 1)) (sem_cons (sem_var (i := 2)) (sem_cons (sem_var (i := 5)) sem_nil))))) (sem_if (sem_isNT (sem_var (i := 6))) sem_str (sem_var (i := 6)))) (sem_sone (sem_ret sem_bl)) sem_snil))))) (sem_sone (sem_rel 4 (sem_ret (sem_cmp hr (sem_call (fn_possible C) (hr.mono (by first | decide | omega)) (sem_cons (sem_var (i := 0)) (sem_cons (sem_var (i := 1)) (sem_cons (sem_var (i := 2)) sem_nil)))) (sem_var (i := 4))))))))
theorem ok_law (C : Fct K mg) {fd : FuncData} (F : FunD K "law" "law" (defArgs s_law) (defBody s_law) (defScope s_law) [] [] (He.ga K "law") fd) : (∀ (s : Shared) (v : Value), BindsTo s fd ⟨[v], []⟩ [("script", v)]) ∧ FnOk P w K mg base CX0 11 (He.ga K "law") fd ["script"] (spW K mg 1 m_law) :=
  ok_law0 F sc_law (fun _ _ _ _ _ _ us hl => match us, hl with | [_], _ => rfl) fun cdv A outer s H E hr =>
  (sem_scons (sem_for (T := (.one 1)) (sem_range1 C.free_range (sem_bin sem_int (sem_blt (call_minD rfl) rfl C.free_min boot_min (sem_cons (sem_blt call_lenD rfl C.free_len boot_len (sem_cons (sem_var (i := 0)) sem_nil)) (sem_cons sem_int sem_nil))))) (tg_one sc_law.nd) (sem_scons (sem_setSrc (i := 2) sc_law.nd (fn_law_source C) (hr.mono (by first | decide | omega)) (sem_cons (sem_var (i := 0)) (sem_cons (sem_var (i := 1)) sem_nil))) (sem_scons (sem_par (i := 3) (j := 4) sc_law.nd (sem_cons (sem_callS (i := 2) (fn_law_rule C) (hr.mono (by first | decide | omega)) sem_nil) (sem_cons (sem_bin sem_int (sem_callS (i := 2) (fn_law_draw C) (hr.mono (by first | decide | omega)) (sem_cons sem_int sem_nil))) sem_nil))) (sem_sone (sem_for (T := (.one 5)) (sem_iter (sem_lst (sem_cons sem_int (sem_cons sem_int (sem_cons sem_int (sem_cons sem_int sem_nil)))))) (tg_one sc_law.nd) (sem_scons (sem_set (i := 6) sc_law.nd (sem_callS (i := 2) (fn_law_row C) (hr.mono (by first | decide | omega)) (sem_cons (sem_var (i := 3)) (sem_cons (sem_var (i := 4)) (sem_cons (sem_var (i := 5)) sem_nil))))) (sem_scons (sem_sif (sem_notT (sem_valT (sem_call (fn_law_right C) (hr.mono (by first | decide | omega)) (sem_cons (sem_var (i := 3)) (sem_cons (sem_var (i := 4)) (sem_cons (sem_var (i := 6)) sem_nil)))))) (sem_sone (sem_ret sem_bl)) sem_snil) (sem_scons (sem_set (i := 7) sc_law.nd (sem_lst (sem_cons (sem_tup (sem_cons sem_str (sem_cons (sem_var (i := 4)) sem_nil))) (sem_cons (sem_tup (sem_cons sem_str (sem_cons sem_bl sem_nil))) (sem_cons (sem_tup (sem_cons sem_str (sem_cons sem_int sem_nil))) (sem_cons sem_str (sem_cons (sem_lst (sem_cons sem_str sem_nil)) (sem_cons (sem_tup sem_nil) (sem_cons sem_non (sem_cons (sem_tup (sem_cons sem_str (sem_cons sem_int sem_nil))) (sem_cons (sem_tup (sem_cons sem_str (sem_cons sem_int sem_nil))) sem_nil))))))))))) (sem_sone (sem_for (T := (.one 8)) (sem_iter (sem_var (i := 7))) (tg_one sc_law.nd) (sem_sone (sem_sif (sem_cmpT hr (sem_call (fn_law_tried C) (hr.mono (by first | decide | omega)) (sem_cons (sem_var (i := 3)) (sem_cons (sem_var (i := 4)) (sem_cons (sem_var (i := 6)) (sem_cons (sem_var (i := 8)) sem_nil))))) sem_str) (sem_sone (sem_ret sem_bl)) sem_snil)))))))))))) (sem_scons (sem_set (i := 3) sc_law.nd (sem_tup (sem_cons sem_int (sem_cons sem_int (sem_cons sem_str (sem_cons sem_bl (sem_cons sem_int (sem_cons sem_str (sem_cons sem_int (sem_cons sem_str (sem_cons sem_bl sem_nil))))))))))) (sem_scons (sem_set (i := 6) sc_law.nd (sem_tup (sem_cons (sem_tup (sem_cons sem_str (sem_cons sem_int sem_nil))) (sem_cons (sem_tup (sem_cons sem_str (sem_cons sem_int sem_nil))) sem_nil)))) (sem_scons (sem_sif (sem_cmpT hr (sem_call (fn_law_tried C) (hr.mono (by first | decide | omega)) (sem_cons (sem_var (i := 3)) (sem_cons sem_int (sem_cons (sem_var (i := 6)) (sem_cons (sem_tup (sem_cons sem_str sem_nil)) sem_nil))))) (sem_tup (sem_cons (sem_neg sem_int) (sem_cons sem_int (sem_cons sem_int (sem_cons sem_int (sem_cons (sem_tup (sem_cons sem_int sem_nil)) (sem_cons sem_int (sem_cons (sem_tup sem_nil) sem_nil))))))))) (sem_sone (sem_ret sem_bl)) sem_snil) (sem_scons (sem_sif (sem_cmpT hr (sem_call (fn_law_tried C) (hr.mono (by first | decide | omega)) (sem_cons (sem_var (i := 3)) (sem_cons sem_int (sem_cons (sem_var (i := 6)) (sem_cons (sem_tup (sem_cons sem_str (sem_cons sem_int sem_nil))) sem_nil))))) (sem_tup (sem_cons (sem_neg sem_int) (sem_cons sem_int (sem_cons sem_int (sem_cons sem_int (sem_cons (sem_tup (sem_cons sem_int sem_nil)) (sem_cons sem_int (sem_cons (sem_tup sem_nil) sem_nil))))))))) (sem_sone (sem_ret sem_bl)) sem_snil) (sem_sone (sem_ret (sem_cmp hr (sem_call (fn_law_tried C) (hr.mono (by first | decide | omega)) (sem_cons (sem_var (i := 3)) (sem_cons sem_int (sem_cons (sem_tup (sem_cons (sem_tup (sem_cons sem_str (sem_cons sem_int sem_nil))) (sem_cons (sem_tup (sem_cons sem_str sem_nil)) (sem_cons (sem_tup (sem_cons sem_str (sem_cons sem_int sem_nil))) sem_nil)))) (sem_cons (sem_tup (sem_cons sem_str sem_nil)) sem_nil))))) (sem_tup (sem_cons sem_int (sem_cons sem_int (sem_cons sem_int (sem_cons sem_int (sem_cons (sem_tup (sem_cons sem_int sem_nil)) (sem_cons sem_int (sem_cons (sem_tup sem_nil) sem_nil))))))))))))))))
end
end RL

namespace RL
open PySem PySem.Spec PyProof.Rows L2
def hfa : List He.Fa := [.glo "is_from", .free "isinstance", .free "int", .free "bool", .glo "is_tuple", .free "tuple", .free "len", .glo "is_part", .free "str", .glo "is_rule", .free "enumerate", .free "all", .glo "need_rule", .glo "InvalidRule", .exc "InvalidRule", .glo "need_both", .glo "InvalidReaders", .exc "InvalidReaders", .glo "can_take", .glo "renewed_left", .glo "can_renew", .glo "deeds_at", .free "list", .free "range", .glo "called", .free "min", .glo "fetch_days", .glo "night", .free "max", .glo "done", .free "sorted", .glo "is_deed", .glo "led", .glo "has_row", .glo "need_row", .glo "InvalidRow", .exc "InvalidRow", .glo "possible", .glo "after", .glo "InvalidDeed", .exc "InvalidDeed", .glo "_law_source", .free "abs", .glo "_law_draw", .glo "_law_choice", .glo "_law_values", .glo "_law_rule", .glo "_law_taken", .glo "_law_renewed", .glo "_law_night", .glo "_law_done", .glo "_law_deeds", .glo "_law_begun", .glo "_law_led", .glo "_law_row", .glo "_law_tried", .glo "InvalidDeed", .glo "InvalidDeed", .exm "InvalidDeed" "InvalidDeed" true, .glo "_law_right", .glo "law"]
def hd_0 : He.DefD := ⟨("is_from", none), "is_from", "is_from", defArgs s_is_from, defBody s_is_from, defScope s_is_from, [], []⟩
def hd_1 : He.DefD := ⟨("is_tuple", none), "is_tuple", "is_tuple", defArgs s_is_tuple, defBody s_is_tuple, defScope s_is_tuple, [], []⟩
def hd_2 : He.DefD := ⟨("is_part", none), "is_part", "is_part", defArgs s_is_part, defBody s_is_part, defScope s_is_part, [], []⟩
def hd_3 : He.DefD := ⟨("is_rule", none), "is_rule", "is_rule", defArgs s_is_rule, defBody s_is_rule, defScope s_is_rule, [], []⟩
def hd_4 : He.DefD := ⟨("need_rule", none), "need_rule", "need_rule", defArgs s_need_rule, defBody s_need_rule, defScope s_need_rule, [], []⟩
def hd_5 : He.DefD := ⟨("need_both", none), "need_both", "need_both", defArgs s_need_both, defBody s_need_both, defScope s_need_both, [], []⟩
def hd_6 : He.DefD := ⟨("can_take", none), "can_take", "can_take", defArgs s_can_take, defBody s_can_take, defScope s_can_take, [], []⟩
def hd_7 : He.DefD := ⟨("renewed_left", none), "renewed_left", "renewed_left", defArgs s_renewed_left, defBody s_renewed_left, defScope s_renewed_left, [], []⟩
def hd_8 : He.DefD := ⟨("can_renew", none), "can_renew", "can_renew", defArgs s_can_renew, defBody s_can_renew, defScope s_can_renew, [], []⟩
def hd_9 : He.DefD := ⟨("deeds_at", none), "deeds_at", "deeds_at", defArgs s_deeds_at, defBody s_deeds_at, defScope s_deeds_at, [], []⟩
def hd_10 : He.DefD := ⟨("called", none), "called", "called", defArgs s_called, defBody s_called, defScope s_called, [], []⟩
def hd_11 : He.DefD := ⟨("fetch_days", none), "fetch_days", "fetch_days", defArgs s_fetch_days, defBody s_fetch_days, defScope s_fetch_days, [], []⟩
def hd_12 : He.DefD := ⟨("night", none), "night", "night", defArgs s_night, defBody s_night, defScope s_night, [], []⟩
def hd_13 : He.DefD := ⟨("done", none), "done", "done", defArgs s_done, defBody s_done, defScope s_done, [], []⟩
def hd_14 : He.DefD := ⟨("is_deed", none), "is_deed", "is_deed", defArgs s_is_deed, defBody s_is_deed, defScope s_is_deed, [], []⟩
def hd_15 : He.DefD := ⟨("led", none), "led", "led", defArgs s_led, defBody s_led, defScope s_led, [], []⟩
def hd_16 : He.DefD := ⟨("has_row", none), "has_row", "has_row", defArgs s_has_row, defBody s_has_row, defScope s_has_row, [], []⟩
def hd_17 : He.DefD := ⟨("need_row", none), "need_row", "need_row", defArgs s_need_row, defBody s_need_row, defScope s_need_row, [], []⟩
def hd_18 : He.DefD := ⟨("possible", none), "possible", "possible", defArgs s_possible, defBody s_possible, defScope s_possible, [], []⟩
def hd_19 : He.DefD := ⟨("after", none), "after", "after", defArgs s_after, defBody s_after, defScope s_after, [], []⟩
def hd_20 : He.DefD := ⟨("_law_source", none), "_law_source", "_law_source", defArgs s_law_source, defBody s_law_source, defScope s_law_source, [], []⟩
def hd_21 : He.DefD := ⟨("_law_draw", none), "_law_draw", "_law_draw", defArgs s_law_draw, defBody s_law_draw, defScope s_law_draw, [], []⟩
def hd_22 : He.DefD := ⟨("_law_choice", none), "_law_choice", "_law_choice", defArgs s_law_choice, defBody s_law_choice, defScope s_law_choice, [], []⟩
def hd_23 : He.DefD := ⟨("_law_values", none), "_law_values", "_law_values", defArgs s_law_values, defBody s_law_values, defScope s_law_values, [], []⟩
def hd_24 : He.DefD := ⟨("_law_rule", none), "_law_rule", "_law_rule", defArgs s_law_rule, defBody s_law_rule, defScope s_law_rule, [], []⟩
def hd_25 : He.DefD := ⟨("_law_taken", none), "_law_taken", "_law_taken", defArgs s_law_taken, defBody s_law_taken, defScope s_law_taken, [], []⟩
def hd_26 : He.DefD := ⟨("_law_renewed", none), "_law_renewed", "_law_renewed", defArgs s_law_renewed, defBody s_law_renewed, defScope s_law_renewed, [], []⟩
def hd_27 : He.DefD := ⟨("_law_night", none), "_law_night", "_law_night", defArgs s_law_night, defBody s_law_night, defScope s_law_night, [], []⟩
def hd_28 : He.DefD := ⟨("_law_done", none), "_law_done", "_law_done", defArgs s_law_done, defBody s_law_done, defScope s_law_done, [], []⟩
def hd_29 : He.DefD := ⟨("_law_deeds", none), "_law_deeds", "_law_deeds", defArgs s_law_deeds, defBody s_law_deeds, defScope s_law_deeds, [], []⟩
def hd_30 : He.DefD := ⟨("_law_begun", none), "_law_begun", "_law_begun", defArgs s_law_begun, defBody s_law_begun, defScope s_law_begun, [], []⟩
def hd_31 : He.DefD := ⟨("_law_led", none), "_law_led", "_law_led", defArgs s_law_led, defBody s_law_led, defScope s_law_led, [], []⟩
def hd_32 : He.DefD := ⟨("_law_row", none), "_law_row", "_law_row", defArgs s_law_row, defBody s_law_row, defScope s_law_row, [], []⟩
def hd_33 : He.DefD := ⟨("_law_tried", none), "_law_tried", "_law_tried", defArgs s_law_tried, defBody s_law_tried, defScope s_law_tried, [], []⟩
def hd_34 : He.DefD := ⟨("_law_right", none), "_law_right", "_law_right", defArgs s_law_right, defBody s_law_right, defScope s_law_right, [], []⟩
def hd_35 : He.DefD := ⟨("law", none), "law", "law", defArgs s_law, defBody s_law, defScope s_law, [], []⟩
def hfn : List He.DefD := [hd_0, hd_1, hd_2, hd_3, hd_4, hd_5, hd_6, hd_7, hd_8, hd_9, hd_10, hd_11, hd_12, hd_13, hd_14, hd_15, hd_16, hd_17, hd_18, hd_19, hd_20, hd_21, hd_22, hd_23, hd_24, hd_25, hd_26, hd_27, hd_28, hd_29, hd_30, hd_31, hd_32, hd_33, hd_34, hd_35]
def hex (K : PySem.W.Frag) : Bool := valB K "VALUES" v_VALUES && (valB K "NOBODY" v_NOBODY && (valB K "ENDLESS" v_ENDLESS && (valB K "MOST_LEFT" v_MOST_LEFT && (valB K "FIRST" v_FIRST && (valB K "MOST_DEEDS" v_MOST_DEEDS && true)))))
def loose_0 : List PySem.Str := ["LendError", "InvalidRule", "InvalidReaders", "InvalidDeed", "InvalidRow", "ENDLESS", "MOST_LEFT", "VALUES", "is_from", "is_tuple", "is_part", "is_rule", "need_rule", "need_both", "MOST_DEEDS", "NOBODY", "FIRST", "can_take", "can_renew", "renewed_left", "deeds_at", "called", "fetch_days", "night", "done", "is_deed", "led", "has_row", "need_row", "possible"]
def loose_1 : List PySem.Str := ["after", "_law_source", "_law_draw", "_law_choice", "_law_values", "_law_rule", "_law_taken", "_law_renewed", "_law_night", "_law_done", "_law_deeds", "_law_begun", "_law_led", "_law_row", "_law_tried", "_law_right"]
def loose : List PySem.Str := loose_0 ++ loose_1
abbrev hR : PySem.W.OpenRow := PySem.W.OpenLaw.row PySem.Challenge.rw_renewedagain_k02_whole_deeds_one_by_one
abbrev hk : PySem.W.Hook := He.hookX 4 hfa hfn [] [] hex
def hob (s : PySem.W.SharedT) : He.AlX := He.obsX 4 hfa hfn [] [] hex (HandSHeadRun.getT s)
theorem hob_eq (s : PySem.W.SharedT) : hob s = hk.obs s.abs := He.obsX_eq (HandSHeadRun.getT_eq s)
theorem hrun (w : World) : HandSHeadRun.RunEq hR (PySem.W.view hR.prog [50]) hk hob 4000 loose w := by
  intro os
  kernel_rfl
theorem hfct {K : PySem.W.Frag} {h : Heap} {mg : Str → Option Value} {w : World} (X : K.In h) (G : h.Ns mainGlobals mg) (c : He.SaysX hfa hfn [] [] hex w h K) : Fct K mg := by
  have ex := c.more
  obtain ⟨e0, ex⟩ := Bool.and_eq_true_iff.mp ex
  obtain ⟨e1, ex⟩ := Bool.and_eq_true_iff.mp ex
  obtain ⟨e2, ex⟩ := Bool.and_eq_true_iff.mp ex
  obtain ⟨e3, ex⟩ := Bool.and_eq_true_iff.mp ex
  obtain ⟨e4, ex⟩ := Bool.and_eq_true_iff.mp ex
  obtain ⟨e5, ex⟩ := Bool.and_eq_true_iff.mp ex
  exact { glo_is_from := He.glo_ok X G (c.t.d.fact 0 rfl), fun_is_from := c.t.d.def_ 0 rfl, free_isinstance := He.free_ok X G (c.t.d.fact 1 rfl), free_int := He.free_ok X G (c.t.d.fact 2 rfl), free_bool := He.free_ok X G (c.t.d.fact 3 rfl), glo_is_tuple := He.glo_ok X G (c.t.d.fact 4 rfl), fun_is_tuple := c.t.d.def_ 1 rfl, free_tuple := He.free_ok X G (c.t.d.fact 5 rfl), free_len := He.free_ok X G (c.t.d.fact 6 rfl), glo_is_part := He.glo_ok X G (c.t.d.fact 7 rfl), fun_is_part := c.t.d.def_ 2 rfl, val_VALUES := valB_ok X G e0, free_str := He.free_ok X G (c.t.d.fact 8 rfl), glo_is_rule := He.glo_ok X G (c.t.d.fact 9 rfl), fun_is_rule := c.t.d.def_ 3 rfl, free_enumerate := He.free_ok X G (c.t.d.fact 10 rfl), free_all := He.free_ok X G (c.t.d.fact 11 rfl), glo_need_rule := He.glo_ok X G (c.t.d.fact 12 rfl), fun_need_rule := c.t.d.def_ 4 rfl, exc_InvalidRule := exF_ok X G (c.t.d.fact 13 rfl) (c.t.d.fact 14 rfl), glo_need_both := He.glo_ok X G (c.t.d.fact 15 rfl), fun_need_both := c.t.d.def_ 5 rfl, exc_InvalidReaders := exF_ok X G (c.t.d.fact 16 rfl) (c.t.d.fact 17 rfl), glo_can_take := He.glo_ok X G (c.t.d.fact 18 rfl), fun_can_take := c.t.d.def_ 6 rfl, val_NOBODY := valB_ok X G e1, glo_renewed_left := He.glo_ok X G (c.t.d.fact 19 rfl), fun_renewed_left := c.t.d.def_ 7 rfl, glo_can_renew := He.glo_ok X G (c.t.d.fact 20 rfl), fun_can_renew := c.t.d.def_ 8 rfl, val_ENDLESS := valB_ok X G e2, val_MOST_LEFT := valB_ok X G e3, glo_deeds_at := He.glo_ok X G (c.t.d.fact 21 rfl), fun_deeds_at := c.t.d.def_ 9 rfl, free_list := He.free_ok X G (c.t.d.fact 22 rfl), free_range := He.free_ok X G (c.t.d.fact 23 rfl), glo_called := He.glo_ok X G (c.t.d.fact 24 rfl), fun_called := c.t.d.def_ 10 rfl, free_min := He.free_ok X G (c.t.d.fact 25 rfl), glo_fetch_days := He.glo_ok X G (c.t.d.fact 26 rfl), fun_fetch_days := c.t.d.def_ 11 rfl, glo_night := He.glo_ok X G (c.t.d.fact 27 rfl), fun_night := c.t.d.def_ 12 rfl, free_max := He.free_ok X G (c.t.d.fact 28 rfl), glo_done := He.glo_ok X G (c.t.d.fact 29 rfl), fun_done := c.t.d.def_ 13 rfl, free_sorted := He.free_ok X G (c.t.d.fact 30 rfl), glo_is_deed := He.glo_ok X G (c.t.d.fact 31 rfl), fun_is_deed := c.t.d.def_ 14 rfl, glo_led := He.glo_ok X G (c.t.d.fact 32 rfl), fun_led := c.t.d.def_ 15 rfl, val_FIRST := valB_ok X G e4, glo_has_row := He.glo_ok X G (c.t.d.fact 33 rfl), fun_has_row := c.t.d.def_ 16 rfl, val_MOST_DEEDS := valB_ok X G e5, glo_need_row := He.glo_ok X G (c.t.d.fact 34 rfl), fun_need_row := c.t.d.def_ 17 rfl, exc_InvalidRow := exF_ok X G (c.t.d.fact 35 rfl) (c.t.d.fact 36 rfl), glo_possible := He.glo_ok X G (c.t.d.fact 37 rfl), fun_possible := c.t.d.def_ 18 rfl, glo_after := He.glo_ok X G (c.t.d.fact 38 rfl), fun_after := c.t.d.def_ 19 rfl, exc_InvalidDeed := exF_ok X G (c.t.d.fact 39 rfl) (c.t.d.fact 40 rfl), glo_law_source := He.glo_ok X G (c.t.d.fact 41 rfl), fun_law_source := c.t.d.def_ 20 rfl, free_abs := He.free_ok X G (c.t.d.fact 42 rfl), glo_law_draw := He.glo_ok X G (c.t.d.fact 43 rfl), fun_law_draw := c.t.d.def_ 21 rfl, glo_law_choice := He.glo_ok X G (c.t.d.fact 44 rfl), fun_law_choice := c.t.d.def_ 22 rfl, glo_law_values := He.glo_ok X G (c.t.d.fact 45 rfl), fun_law_values := c.t.d.def_ 23 rfl, glo_law_rule := He.glo_ok X G (c.t.d.fact 46 rfl), fun_law_rule := c.t.d.def_ 24 rfl, glo_law_taken := He.glo_ok X G (c.t.d.fact 47 rfl), fun_law_taken := c.t.d.def_ 25 rfl, glo_law_renewed := He.glo_ok X G (c.t.d.fact 48 rfl), fun_law_renewed := c.t.d.def_ 26 rfl, glo_law_night := He.glo_ok X G (c.t.d.fact 49 rfl), fun_law_night := c.t.d.def_ 27 rfl, glo_law_done := He.glo_ok X G (c.t.d.fact 50 rfl), fun_law_done := c.t.d.def_ 28 rfl, glo_law_deeds := He.glo_ok X G (c.t.d.fact 51 rfl), fun_law_deeds := c.t.d.def_ 29 rfl, glo_law_begun := He.glo_ok X G (c.t.d.fact 52 rfl), fun_law_begun := c.t.d.def_ 30 rfl, glo_law_led := He.glo_ok X G (c.t.d.fact 53 rfl), fun_law_led := c.t.d.def_ 31 rfl, glo_law_row := He.glo_ok X G (c.t.d.fact 54 rfl), fun_law_row := c.t.d.def_ 32 rfl, glo_law_tried := He.glo_ok X G (c.t.d.fact 55 rfl), fun_law_tried := c.t.d.def_ 33 rfl, exm_InvalidDeed_InvalidDeed := exmF_ok X G (c.t.d.fact 56 rfl) (c.t.d.fact 57 rfl) (c.t.d.fact 58 rfl), glo_law_right := He.glo_ok X G (c.t.d.fact 59 rfl), fun_law_right := c.t.d.def_ 34 rfl, glo_law := He.glo_ok X G (c.t.d.fact 60 rfl), fun_law := c.t.d.def_ 35 rfl }
end RL
open PySem PySem.W PySem.Calls PyProof.Rows
theorem law_holds (plain : ∀ ns : List Int, ns.length ≤ 63 → RL.Sat (RL.m_law [.list (ns.map .int)]) (· = .bool true)) : PySem.Challenge.rw_renewedagain_k02_whole_deeds_one_by_one.Holds := by
  w_on; o_law
  refine HandSHeadRun.head_any (r := OpenLaw.row PySem.Challenge.rw_renewedagain_k02_whole_deeds_one_by_one) (q := view (OpenLaw.row PySem.Challenge.rw_renewedagain_k02_whole_deeds_one_by_one).prog [50]) (H := RL.hk) (ob := RL.hob) (M := 4000) (loose := RL.loose) (d := HandSHeadRun.topDef (OpenLaw.row PySem.Challenge.rw_renewedagain_k02_whole_deeds_one_by_one).prog 50) (kwd := []) RL.hob_eq
    (by kernel_rfl) (fun s => by kernel_rfl) RL.hrun (by kernel_rfl) (by kernel_rfl) (by kernel_rfl) (by rfl) (by first | assumption | decide +kernel) (by decide +kernel) ⟨rfl, rfl, rfl, rfl, rfl, by decide +kernel⟩ ?hw ?hc
  case hw => w_witness2
  case hc =>
    refine L2.walk_ofE (l := PySem.Challenge.rw_renewedagain_k02_whole_deeds_one_by_one) (n := 63) (k := 11) (x := "script") (CX := L2.CX0) rfl (by decide) (by kernel_rfl) ⟨rfl, by decide, by decide⟩ ?F (fun _ _ _ _ z => z)
    intro w mg fa h Y G hmg0
    obtain ⟨K, KX, c⟩ := Y
    have hmg : mg ("law" : PySem.Str) = some (.ref fa) := by
      have e : (HandSHeadRun.topDef (OpenLaw.row PySem.Challenge.rw_renewedagain_k02_whole_deeds_one_by_one).prog 50).name = ("law" : PySem.Str) := by kernel_rfl
      rw [← e]
      exact hmg0
    have C := RL.hfct KX G c
    have e := hmg.symm.trans C.glo_law
    cases e
    obtain ⟨fd, F⟩ := C.fun_law
    exact ⟨K, fd, RL.spW K mg 1 RL.m_law, KX, (RL.ok_law (P := (PySem.Challenge.rw_renewedagain_k02_whole_deeds_one_by_one).prog) (w := w) (base := h) C F).1, fun H a ns hl _ hS => RL.law_sp plain H a ns hl hS, fun base _ _ => (RL.ok_law C F).2⟩

namespace RL
open PySem PySem.Spec PyProof.Rows L2
/-- what after returns, or the word -/
theorem tried_ok {a b c v d : PyData} (e : m_after [a, b, c, v] = .ok d) : m_law_tried [a, b, c, v] = .ok d := by
  simp [m_law_tried, runD, g_law_tried, startE, sTry, e, O.catch]
theorem tried_exc {a b c v : PyData} (e : m_after [a, b, c, v] = .exc "InvalidDeed") : m_law_tried [a, b, c, v] = .ok (.str "deed") := by
  simp [m_law_tried, runD, g_law_tried, startE, sTry, e, O.catch, O.cl]
def rightBody : Rho → O := (sSeq (sSet 6 (gCall 4 (gCons (getV 0) (gCons (getV 1) (gCons (getV 3) (gCons (getV 5) gNil)))) m_law_done)) (sSeq (sIf (gTest (gNotN (getV 6))) (sApp 4 (getV 5)) sNil) (sIf (gCmp .NotEq (gCall 4 (gCons (getV 0) (gCons (getV 1) (gCons (getV 2) (gCons (getV 5) gNil)))) m_law_tried) (gIf (gTest (gIsN (getV 6))) (gK (.str "deed")) (getV 6))) (sRet (gK (.bool false))) sNil)))
theorem ev_rightBody {U : Ru} (hU : U.Ok) {n : Nat} (hn : n = 2 ∨ n = 3) {ds : List De} (hl : ds.length ≤ 60) (hi : ∀ d ∈ ds, d.inn n) (hp : path U first ds = true) {d : De} (hd : d.inn n) {due : List De} (hdl : due.length ≤ 1000) {x y : Sl} :
    ∃ w, rightBody [.d U.d, .d (.int n), .d (.tuple (ds.map De.d)), .d (ends U first ds).d, .o (due.map De.d), .d d.d, y] = .nx [.d U.d, .d (.int n), .d (.tuple (ds.map De.d)), .d (ends U first ds).d, .o ((due ++ if can U (ends U first ds) d = true then [d] else []).map De.d), .d d.d, w] := by
  have hS := ends_ok hU (n := n) (first_ok hU) hi hp
  have e1 := ev_law_done (n := n) (d := d) hU hS (by omega)
  have e2 := ev_is_deed (U := U) (S := ends U first ds) hn hd
  have e3 := ev_after hU hn hl hi hp (v := d.d) e2 (r := (done U (ends U first ds) d).d) (fun hc => ev_done (by have := hS.ql; omega) (by have := hS.rl; omega) fun x e z => by
    subst e
    simp [can, z] at hc)
  have hz : (due.map De.d).length < sizeLine := by rw [sizeLine_eq]; simp; omega
  generalize ends U first ds = S at *
  cases hc : can U S d with
  | true =>
    rw [hc] at e1 e3
    have e1 : m_law_done [U.d, .int n, S.d, d.d] = .ok (done U S d).d := e1
    have e4 := tried_ok (by rw [if_pos rfl] at e3; exact e3)
    refine ⟨.d (done U S d).d, ?_⟩
    unfold rightBody
    have hA : sApp 4 (getV 5) [.d U.d, .d (.int n), .d (.tuple (ds.map De.d)), .d S.d, .o (due.map De.d), .d d.d, .d (done U S d).d] = .nx [.d U.d, .d (.int n), .d (.tuple (ds.map De.d)), .d S.d, .o (due.map De.d ++ [d.d]), .d d.d, .d (done U S d).d] := by
      show (if noL d.d = true ∧ (due.map De.d).length < sizeLine then O.nx [.d U.d, .d (.int n), .d (.tuple (ds.map De.d)), .d S.d, .o (due.map De.d ++ [d.d]), .d d.d, .d (done U S d).d] else .stuck) = _
      rw [if_pos ⟨noL_De d, hz⟩]
    simp [e1, isNone_Sd, hA, e4, ne_Sd]
  | false =>
    rw [hc] at e1 e3
    have e1 : m_law_done [U.d, .int n, S.d, d.d] = .ok .none := e1
    have e4 := tried_exc (by rw [if_neg Bool.false_ne_true] at e3; exact e3)
    refine ⟨.d .none, ?_⟩
    have e5 : neD (.str "deed") (.str "deed") = some false := by kernel_rfl
    unfold rightBody
    simp [e1, isNone, e4, e5]
theorem right_for {U : Ru} (hU : U.Ok) {n : Nat} (hn : n = 2 ∨ n = 3) {ds : List De} (hl : ds.length ≤ 60) (hi : ∀ d ∈ ds, d.inn n) (hp : path U first ds = true) : ∀ {es : List De} {due : List De} {x y : Sl}, (∀ d ∈ es, d.inn n) → due.length + es.length ≤ 900 →
    ∃ z w, forD (.one 5) rightBody (es.map De.d) [.d U.d, .d (.int n), .d (.tuple (ds.map De.d)), .d (ends U first ds).d, .o (due.map De.d), x, y] = .nx [.d U.d, .d (.int n), .d (.tuple (ds.map De.d)), .d (ends U first ds).d, .o ((due ++ es.filter (can U (ends U first ds))).map De.d), z, w]
  | [], due, x, y, _, _ => ⟨x, y, by simp⟩
  | e :: es, due, x, y, he, hlen => by
    obtain ⟨w, h1⟩ := ev_rightBody hU hn hl hi hp (d := e) (he e List.mem_cons_self) (due := due) (by simp at hlen; omega) (x := x) (y := y)
    have e0 : forD (.one 5) rightBody ((e :: es).map De.d) [.d U.d, .d (.int n), .d (.tuple (ds.map De.d)), .d (ends U first ds).d, .o (due.map De.d), x, y] = (rightBody [.d U.d, .d (.int n), .d (.tuple (ds.map De.d)), .d (ends U first ds).d, .o (due.map De.d), .d e.d, y]).th (forD (.one 5) rightBody (es.map De.d)) := rfl
    obtain ⟨z, w2, h2⟩ := right_for hU hn hl hi hp (es := es) (due := due ++ if can U (ends U first ds) e = true then [e] else []) (x := .d e.d) (y := w) (fun d hd => he d (List.mem_cons_of_mem _ hd)) (by simp at hlen ⊢; split <;> simp <;> omega)
    refine ⟨z, w2, ?_⟩
    rw [e0, h1, O.th_nx, h2, List.filter_cons]
    cases can U (ends U first ds) e <;> simp
theorem ev_law_right {U : Ru} (hU : U.Ok) {n : Nat} (hn : n = 2 ∨ n = 3) {ds : List De} (hl : ds.length ≤ 60) (hi : ∀ d ∈ ds, d.inn n) (hp : path U first ds = true) : m_law_right [U.d, .int n, .tuple (ds.map De.d)] = .ok (.bool true) := by
  have e1 := ev_law_led hU (n := n) (ds := ds) (by omega) hi hp
  have e3 := ix_trail (U := U) (S := first) (ds := ds)
  have ng : negD (.int 1) = .ok (.int (-1)) := rfl
  have e2 := ev_law_deeds hn
  have al := allDe_len hn
  obtain ⟨z, w, h⟩ := right_for hU hn hl hi hp (es := allDe n) (due := []) (x := .u) (y := .u) (fun d hd => mem_allDe.mp hd) (by simp; omega)
  have hpo := ev_possible hU hn hl hi hp
  have e0 : g_law_right (startE N_law_right [U.d, .int n, .tuple (ds.map De.d)]) = (sParNew 3 4 (gIx (gCall 3 (gCons (getV 0) (gCons (getV 1) (gCons (getV 2) gNil))) m_law_led) (gNeg (gK (.int 1)))) [.d U.d, .d (.int n), .d (.tuple (ds.map De.d)), .u, .u, .u, .u]).th (sSeq (sFor (.one 5) (iSeq (gCall 1 (gCons (getV 1) gNil) m_law_deeds)) rightBody) (sRel 4 (sRet (asV (gCmp .Eq (gCall 3 (gCons (getV 0) (gCons (getV 1) (gCons (getV 2) gNil))) m_possible) (getV 4)))))) := rfl
  have h1 : sParNew 3 4 (gIx (gCall 3 (gCons (getV 0) (gCons (getV 1) (gCons (getV 2) gNil))) m_law_led) (gNeg (gK (.int 1)))) [.d U.d, .d (.int n), .d (.tuple (ds.map De.d)), .u, .u, .u, .u] = .nx [.d U.d, .d (.int n), .d (.tuple (ds.map De.d)), .d (ends U first ds).d, .o [], .u, .u] := by
    have : gIx (gCall 3 (gCons (getV 0) (gCons (getV 1) (gCons (getV 2) gNil))) m_law_led) (gNeg (gK (.int 1))) [.d U.d, .d (.int n), .d (.tuple (ds.map De.d)), .u, .u, .u, .u] = .ok (ends U first ds).d := by
      simp only [List.map_cons] at e1 e3
      simp [e1, ng, e3]
    unfold sParNew
    rw [this]
    rfl
  have h2 : iSeq (gCall 1 (gCons (getV 1) gNil) m_law_deeds) [.d U.d, .d (.int n), .d (.tuple (ds.map De.d)), .d (ends U first ds).d, .o [], .u, .u] = .ok ((allDe n).map De.d) := by
    have e9 := gCall_ev (k := 1) (gs := gCons (getV 1) gNil) (m := m_law_deeds) (ρ := [.d U.d, .d (.int n), .d (.tuple (ds.map De.d)), .d (ends U first ds).d, .o [], .u, .u]) (ds := [.int n]) rfl rfl e2
    rw [e_iSeq, e9, R.bd_ok, d_asSL, R.of_some]
  simp only [List.map_nil, List.nil_append] at h
  rw [show (allDe n).filter (can U (ends U first ds)) = lets U n (ends U first ds) from rfl] at h
  unfold m_law_right runD
  rw [e0, h1, O.th_nx, e_sSeq, e_sFor, h2, R.to_ok, h, O.th_nx]
  show (sRet (asV (gCmp .Eq (gCall 3 (gCons (getV 0) (gCons (getV 1) (gCons (getV 2) gNil))) m_possible) (getV 4))) [.d U.d, .d (.int n), .d (.tuple (ds.map De.d)), .d (ends U first ds).d, .d (.list ((lets U n (ends U first ds)).map De.d)), z, w]).done = _
  simp [hpo, eq_Des]
theorem odd_range {U : Ru} {S : Sd} {n : Nat} : m_is_deed [U.d, .int n, S.d, .tuple [.str "take", .int n]] = .ok (.bool false) := by
  have h1 : decide (0 ≤ (n : Int)) = true := decide_eq_true (by omega)
  have h2 : decide ((n : Int) ≤ (n : Int) - 1) = false := decide_eq_false (by omega)
  simp only [m_is_deed, runD, g_is_deed, startE, List.map, List.length, List.replicate, List.cons_append, List.nil_append, e_sSeq, e_getS, e_get0, R.bd_ok, R.to_ok]
  simp [ev_tup, isTy, ev_from, h1, h2]
theorem from_bool {b : Bool} {lo hi : Int} : m_is_from [.bool b, .int lo, .int hi] = .ok (.bool false) := by
  simp [m_is_from, runD, g_is_from, startE, isTy]
theorem odd_bool {U : Ru} {S : Sd} {n : Nat} {w : Str} {b : Bool} : m_is_deed [U.d, .int n, S.d, .tuple [.str w, .bool b]] = .ok (.bool false) := by
  simp [m_is_deed, runD, g_is_deed, startE, ev_tup, isTy, from_bool]
def odds (n : Nat) : List PyData := [.tuple [.str "take", .int n], .tuple [.str "ask", .bool true], .tuple [.str "day", .int 0], .str "day", .list [.str "day"], .tuple [], .none, .tuple [.str "back", .int 0], .tuple [.str "Ask", .int 0]]
theorem odd_word {w : Str} {x : Int} (h1 : (w == "ask") = false) (h2 : (w == "drop") = false) (h3 : (w == "take") = false) (e : De) : PyData.eqv e.d (.tuple [.str w, .int x]) = false := by
  have k : ∀ a : Str, (w == a) = false → (a == w) = false := fun a h => by
    cases z : (a == w) with
    | false => rfl
    | true => rw [eq_of_beq z] at h; simp at h
  cases e with
  | ask y => show ((("ask" : Str) == w) && _) = false; rw [k _ h1]; rfl
  | drop y => show ((("drop" : Str) == w) && _) = false; rw [k _ h2]; rfl
  | take y => show ((("take" : Str) == w) && _) = false; rw [k _ h3]; rfl
  | back => show ((("back" : Str) == w) && false) = false; simp
  | day => show ((("day" : Str) == w) && false) = false; simp
  | renew => show ((("renew" : Str) == w) && false) = false; simp
theorem odd_all {U : Ru} {S : Sd} {n : Nat} (hn : n = 2 ∨ n = 3) {v : PyData} (hv : v ∈ odds n) : m_is_deed [U.d, .int n, S.d, v] = .ok (.bool false) := by
  simp only [odds, List.mem_cons, List.not_mem_nil, or_false] at hv
  rcases hv with rfl | rfl | rfl | rfl | rfl | rfl | rfl | rfl | rfl
  · exact odd_range
  · exact odd_bool
  · exact odd_pair hn (by decide +kernel) (odd_word (by decide +kernel) (by decide +kernel) (by decide +kernel))
  · exact odd_str
  · exact odd_list
  · exact odd_nil
  · exact odd_none
  · exact odd_pair hn (by decide +kernel) (odd_word (by decide +kernel) (by decide +kernel) (by decide +kernel))
  · exact odd_pair hn (by decide +kernel) (odd_word (by decide +kernel) (by decide +kernel) (by decide +kernel))
theorem tried_odd {U : Ru} (hU : U.Ok) {n : Nat} (hn : n = 2 ∨ n = 3) {ds : List De} (hl : ds.length ≤ 60) (hi : ∀ d ∈ ds, d.inn n) (hp : path U first ds = true) {v : PyData} (hv : v ∈ odds n) : m_law_tried [U.d, .int n, .tuple (ds.map De.d), v] = .ok (.str "deed") :=
  tried_exc (by rw [ev_after hU hn hl hi hp (odd_all hn hv) (r := .none) (fun h => by cases h)]; rfl)
def oddBody : Rho → O := (sIf (gCmp .NotEq (gCall 4 (gCons (getV 3) (gCons (getV 4) (gCons (getV 6) (gCons (getV 8) gNil)))) m_law_tried) (gK (.str "deed"))) (sRet (gK (.bool false))) sNil)
def mostBody : Rho → O := (sSeq (sSet 6 (gCallS 2 3 (gCons (getV 3) (gCons (getV 4) (gCons (getV 5) gNil))) m_law_row)) (sSeq (sIf (gNotT (gTest (gCall 3 (gCons (getV 3) (gCons (getV 4) (gCons (getV 6) gNil))) m_law_right))) (sRet (gK (.bool false))) sNil) (sSeq (sSet 7 (gLst (gCons (gTup (gCons (gK (.str "take")) (gCons (getV 4) gNil))) (gCons (gTup (gCons (gK (.str "ask")) (gCons (gK (.bool true)) gNil))) (gCons (gTup (gCons (gK (.str "day")) (gCons (gK (.int 0)) gNil))) (gCons (gK (.str "day")) (gCons (gLst (gCons (gK (.str "day")) gNil)) (gCons (gTup gNil) (gCons (gK .none) (gCons (gTup (gCons (gK (.str "back")) (gCons (gK (.int 0)) gNil))) (gCons (gTup (gCons (gK (.str "Ask")) (gCons (gK (.int 0)) gNil))) gNil))))))))))) (sFor (.one 8) (iSeq (getV 7)) oddBody))))
def cellBody : Rho → O := (sSeq (sSrc 2 (gCons (getV 0) (gCons (getV 1) gNil))) (sSeq (sPar [3, 4] (gCons (gCallS 2 0 gNil m_law_rule) (gCons (gBin .Add (gK (.int 2)) (gCallS 2 1 (gCons (gK (.int 2)) gNil) m_law_draw)) gNil))) (sFor (.one 5) (iSeq (gLst (gCons (gK (.int 4)) (gCons (gK (.int 12)) (gCons (gK (.int 25)) (gCons (gK (.int 40)) gNil)))))) mostBody)))
def lawTail : Rho → O := (sSeq (sSet 3 (gTup (gCons (gK (.int 2)) (gCons (gK (.int 1)) (gCons (gK (.str "due")) (gCons (gK (.bool true)) (gCons (gK (.int 0)) (gCons (gK (.str "asked")) (gCons (gK (.int 1)) (gCons (gK (.str "out")) (gCons (gK (.bool false)) gNil))))))))))) (sSeq (sSet 6 (gTup (gCons (gTup (gCons (gK (.str "ask")) (gCons (gK (.int 0)) gNil))) (gCons (gTup (gCons (gK (.str "ask")) (gCons (gK (.int 1)) gNil))) gNil)))) (sSeq (sIf (gCmp .NotEq (gCall 4 (gCons (getV 3) (gCons (gK (.int 2)) (gCons (getV 6) (gCons (gTup (gCons (gK (.str "day")) gNil)) gNil)))) m_law_tried) (gTup (gCons (gNeg (gK (.int 1))) (gCons (gK (.int 0)) (gCons (gK (.int 0)) (gCons (gK (.int 0)) (gCons (gTup (gCons (gK (.int 1)) gNil)) (gCons (gK (.int 1)) (gCons (gTup gNil) gNil))))))))) (sRet (gK (.bool false))) sNil) (sSeq (sIf (gCmp .NotEq (gCall 4 (gCons (getV 3) (gCons (gK (.int 2)) (gCons (getV 6) (gCons (gTup (gCons (gK (.str "drop")) (gCons (gK (.int 0)) gNil))) gNil)))) m_law_tried) (gTup (gCons (gNeg (gK (.int 1))) (gCons (gK (.int 0)) (gCons (gK (.int 0)) (gCons (gK (.int 0)) (gCons (gTup (gCons (gK (.int 1)) gNil)) (gCons (gK (.int 1)) (gCons (gTup gNil) gNil))))))))) (sRet (gK (.bool false))) sNil) (sRet (asV (gCmp .Eq (gCall 4 (gCons (getV 3) (gCons (gK (.int 2)) (gCons (gTup (gCons (gTup (gCons (gK (.str "take")) (gCons (gK (.int 0)) gNil))) (gCons (gTup (gCons (gK (.str "renew")) gNil)) (gCons (gTup (gCons (gK (.str "ask")) (gCons (gK (.int 1)) gNil))) gNil)))) (gCons (gTup (gCons (gK (.str "day")) gNil)) gNil)))) m_law_tried) (gTup (gCons (gK (.int 0)) (gCons (gK (.int 3)) (gCons (gK (.int 1)) (gCons (gK (.int 3)) (gCons (gTup (gCons (gK (.int 1)) gNil)) (gCons (gK (.int 0)) (gCons (gTup gNil) gNil)))))))))))))))
theorem g_law_eq : g_law = (sSeq (sFor (.one 1) (iR1 (gBin .Add (gK (.int 1)) (gBlt (ints2 minI) (gCons (gBlt lenD (gCons (getV 0) gNil)) (gCons (gK (.int 8)) gNil))))) cellBody) lawTail) := rfl
theorem sat_most {U : Ru} (hU : U.Ok) {n most : Nat} (hn : n = 2 ∨ n = 3) (hm : most ≤ 60) {a b c d e : Sl} {Q : PyData → Prop} :
    SatO (mostBody [a, b, .s, .d U.d, .d (.int n), .d (.int most), c, d, e]) (fun ρ => ∃ x c d e, ρ = [a, b, .s, .d U.d, .d (.int n), x, c, d, e]) Q := by
  refine SatO.seq (SatO.set ?_)
  rw [gCallS_ev (k := 3) (i := 2) (m := m_law_row) (ds := [U.d, .int n, .int most]) rfl rfl rfl]
  refine (sat_row hU hn hm).imp fun row ⟨ds, e0, h1, h2, h3⟩ => ?_
  subst e0
  have e1 := ev_law_right hU hn (ds := ds) (by omega) h2 h3
  refine SatO.seq_nx (ρ' := [a, b, .s, .d U.d, .d (.int n), .d (.int most), .d (.tuple (ds.map De.d)), d, e]) (by simp [e1]) ?_
  refine SatO.seq_nx (ρ' := [a, b, .s, .d U.d, .d (.int n), .d (.int most), .d (.tuple (ds.map De.d)), .d (.list (odds n)), e]) ?_ ?_
  · simp [e_line]; rfl
  refine SatO.for (ds := odds n) rfl ((sat_for (fun j ρ => ∃ x, ρ = [a, b, .s, .d U.d, .d (.int n), .d (.int most), .d (.tuple (ds.map De.d)), .d (.list (odds n)), x]) (fun j v ρ hj ⟨x, hx⟩ => ?_) ⟨_, rfl⟩).imp (fun ρ ⟨x, hx⟩ => ⟨_, _, _, _, hx⟩) fun _ h => h)
  subst hx
  refine ⟨_, rfl, ?_⟩
  have e2 := tried_odd hU hn (ds := ds) (by omega) h2 h3 (List.mem_of_getElem? hj)
  have e5 : neD (.str "deed") (.str "deed") = some false := by kernel_rfl
  refine SatO.nx (ρ := [a, b, .s, .d U.d, .d (.int n), .d (.int most), .d (.tuple (ds.map De.d)), .d (.list (odds n)), .d v]) ?_ ⟨_, rfl⟩
  simp [oddBody, e2, e5]
def Nine (S : PyData) (ρ : Rho) : Prop := ∃ a b c d e f g h, ρ = [.d S, a, b, c, d, e, f, g, h]
theorem sat_cell {ns : List Int} {k : Nat} {Q : PyData → Prop} {b c d e f g h : Sl} : SatO (cellBody [.d (.list (ns.map .int)), .d (.int k), b, c, d, e, f, g, h]) (Nine (.list (ns.map .int))) Q := by
  refine SatO.seq_nx (ρ' := [.d (.list (ns.map .int)), .d (.int k), .s, c, d, e, f, g, h]) ?_ ?_
  · have : srcOk [.list (ns.map PyData.int), .int k] = true := by
      show ((ns.map PyData.int).all isI && decide (0 ≤ (k : Int))) = true
      rw [Bool.and_eq_true]
      refine ⟨List.all_eq_true.mpr fun x hx => ?_, decide_eq_true (by omega)⟩
      obtain ⟨n, _, rfl⟩ := List.mem_map.mp hx
      rfl
    simp [this]
  have hd : m_law_draw [.int 2] = .ask 2 fun i => .ok (.int i) := ev_draw (n := 2) (by omega) (by omega)
  refine SatO.seq ?_
  rw [e_sPar]
  refine Sat.to ?_
  rw [e_gCons, gCallS_ev (k := 0) (i := 2) (m := m_law_rule) (ds := []) rfl rfl rfl]
  refine Sat.bd (sat_rule.imp fun rule hr => ?_)
  obtain ⟨U, hU, rfl⟩ := rule_ru hr
  rw [e_gCons, e_gBin, gCallS_ev (k := 1) (i := 2) (m := m_law_draw) (ds := [.int 2]) rfl rfl rfl, hd]
  refine .ask fun i hi => ?_
  refine .ok ?_
  obtain ⟨n, hn, en⟩ : ∃ n : Nat, (n = 2 ∨ n = 3) ∧ (2 : Int) + (i : Int) = (n : Int) := ⟨2 + i, by omega, by omega⟩
  refine SatO.nx (ρ := [.d (.list (ns.map .int)), .d (.int k), .s, .d U.d, .d (.int (2 + (i : Int))), e, f, g, h]) rfl ?_
  rw [en]
  refine SatO.for (ds := [.int (4 : Nat), .int (12 : Nat), .int (25 : Nat), .int (40 : Nat)]) ?_ ((sat_for (fun j ρ => ∃ x c d e, ρ = [.d (.list (ns.map .int)), .d (.int k), .s, .d U.d, .d (.int n), x, c, d, e]) (fun j v ρ hj ⟨x, c, d, e, hx⟩ => ?_) ⟨_, _, _, _, rfl⟩).imp (fun ρ ⟨x, c, d, e, hx⟩ => ⟨_, _, _, _, _, _, _, _, hx⟩) fun _ h => h)
  · simp [e_line]
  · subst hx
    have hm : ∃ m : Nat, m ≤ 60 ∧ v = .int m := by
      have := List.mem_of_getElem? hj
      simp only [List.mem_cons, List.not_mem_nil, or_false] at this
      rcases this with rfl | rfl | rfl | rfl <;> exact ⟨_, by omega, rfl⟩
    obtain ⟨m, hm, rfl⟩ := hm
    refine ⟨_, rfl, ?_⟩
    exact sat_most hU hn hm
theorem minI_ev (a b : Nat) : (ints2 minI) [.int (a : Int), .int (b : Int)] = some (.int ((min a b : Nat) : Int)) := by
  simp only [ints2, minI]
  congr 2
  split <;> omega
/-- the three rows at the end -/
def theU : Ru := ⟨2, 1, true, true, 0, true, 1, false, false⟩
theorem theU_ok : theU.Ok := ⟨by decide, by decide, by decide, by decide, by decide, by decide, by decide, by decide⟩
theorem tried_de {U : Ru} (hU : U.Ok) {n : Nat} (hn : n = 2 ∨ n = 3) {ds : List De} (hl : ds.length ≤ 60) (hi : ∀ d ∈ ds, d.inn n) (hp : path U first ds = true) {d : De} (hd : d.inn n) (hc : can U (ends U first ds) d = true) : m_law_tried [U.d, .int n, .tuple (ds.map De.d), d.d] = .ok (done U (ends U first ds) d).d := by
  have hS := ends_ok hU (n := n) (first_ok hU) hi hp
  have e2 := ev_is_deed (U := U) (S := ends U first ds) hn hd
  rw [hc] at e2
  have e3 := ev_after hU hn hl hi hp (v := d.d) e2 (r := (done U (ends U first ds) d).d) (fun _ => ev_done (by have := hS.ql; omega) (by have := hS.rl; omega) fun x e z => by
    subst e
    simp [can, z] at hc)
  exact tried_ok (by rw [e3]; rfl)
theorem tail1 : m_law_tried [theU.d, .int 2, .tuple [.tuple [.str "ask", .int 0], .tuple [.str "ask", .int 1]], .tuple [.str "day"]] = .ok (⟨-1, 0, 0, 0, [1], 1, []⟩ : Sd).d :=
  tried_de (n := 2) (ds := [.ask 0, .ask 1]) (d := .day) theU_ok (.inl rfl) (by decide) (by simp [De.inn]) (by decide +kernel) trivial (by decide +kernel)
theorem tail2 : m_law_tried [theU.d, .int 2, .tuple [.tuple [.str "ask", .int 0], .tuple [.str "ask", .int 1]], .tuple [.str "drop", .int 0]] = .ok (⟨-1, 0, 0, 0, [1], 1, []⟩ : Sd).d :=
  tried_de (n := 2) (ds := [.ask 0, .ask 1]) (d := .drop 0) theU_ok (.inl rfl) (by decide) (by simp [De.inn]) (by decide +kernel) (by simp [De.inn]) (by decide +kernel)
theorem tail3 : m_law_tried [theU.d, .int 2, .tuple [.tuple [.str "take", .int 0], .tuple [.str "renew"], .tuple [.str "ask", .int 1]], .tuple [.str "day"]] = .ok (⟨0, 3, 1, 3, [1], 0, []⟩ : Sd).d :=
  tried_de (n := 2) (ds := [.take 0, .renew, .ask 1]) (d := .day) theU_ok (.inl rfl) (by decide) (by simp [De.inn]) (by decide +kernel) trivial (by decide +kernel)
theorem ev_tail {ρ : Rho} (h : ∃ a b c d e f g h i, ρ = [a, b, c, d, e, f, g, h, i]) : lawTail ρ = .rt (.bool true) := by
  obtain ⟨a, b, c, d, e, f, g, h, i, rfl⟩ := h
  have n1 := ne_Sd ⟨-1, 0, 0, 0, [1], 1, []⟩
  have n2 := eq_Sd ⟨0, 3, 1, 3, [1], 0, []⟩
  have t1 := tail1
  have t2 := tail2
  have t3 := tail3
  simp only [theU, Ru.d, sDue, sAsk, sFin, Sd.d, iT, List.map, if_pos, Bool.false_eq_true, if_false] at t1 t2 t3 n1 n2
  simp [lawTail, e_line, negD, t1, t2, t3, n1, n2]
theorem plain (ns : List Int) (hn : ns.length ≤ 63) : Sat (m_law [.list (ns.map .int)]) (· = .bool true) := by
  have e0 : startE N_law [.list (ns.map .int)] = [.d (.list (ns.map .int)), .u, .u, .u, .u, .u, .u, .u, .u] := rfl
  unfold m_law runD
  rw [g_law_eq, e0]
  refine SatO.done (SatO.seq (SatO.for (ds := rangeL 0 (1 + min ns.length 8)) ?_ ((sat_for (fun _ ρ => Nine (.list (ns.map .int)) ρ) (fun j dd ρ hj ⟨a, b, c, d, e, f, g, h, hρ⟩ => ?_) ⟨_, _, _, _, _, _, _, _, rfl⟩).imp (fun ρ ⟨a, b, c, d, e, f, g, h, hρ⟩ => ?_) fun _ h => h)))
  · refine iR1_ev ?_ (by omega)
    have := minI_ev ns.length 8
    simp only [e_gBin, e_gK, e_gBlt, e_gCons, e_gNil, e_get0, R.bd_ok, d_lenL, List.length_map, R.of_some, d_add, d_addI]
    rw [show (8 : Int) = ((8 : Nat) : Int) from rfl, this]
    simp only [R.of_some, R.bd_ok, d_addI]
    rw [show (1 : Int) + ((min ns.length 8 : Nat) : Int) = ((1 + min ns.length 8 : Nat) : Int) by omega]
  · subst hρ
    obtain ⟨h1, rfl⟩ := rangeL_get hj
    refine ⟨_, rfl, ?_⟩
    rw [Int.zero_add]
    exact sat_cell
  · subst hρ
    exact SatO.rt (ev_tail ⟨_, _, _, _, _, _, _, _, _, rfl⟩) rfl
end RL

open PySem PySem.W PySem.Calls PyProof.Rows
theorem PySem.Challenge.cw_renewedagain_k02_whole_deeds_one_by_one_holds : PySem.Challenge.rw_renewedagain_k02_whole_deeds_one_by_one.Holds :=
  law_holds RL.plain
