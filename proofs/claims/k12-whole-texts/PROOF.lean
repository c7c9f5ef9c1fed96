import PyProof.Rows.All
import Wide.All
import OpenK.AllK
import Wide.FinOn
import HandS.ForMost
import HandS.ForExc
import HandS.Deep
import HandS.Walk
import HandS.Evl
import HandS.Style
import HandS.TupAny
import HandS.IsInst
import HandS.Conv
import HandS.SortInts
import HandS.SetFor
import HandS.Defaults
import KE.KTupSum
import KE.KDictZip
import HandS.ExcValue
import HandS.ExcIs
import HandS.TryOnly
import HandS.HeadHook2
import KE.SortData
import PyProof.Rows.CountFlat
import HandS.Strs
import HandS.Dict
import HandS.Text
import KE.DataCmp
import KE.KOpsOwn
import PyProof.InstSpecial
import PySem.Challenge.RW_groupsapart_k12_whole_texts
import KE.KStateDown
import Lean
import HandS.HeadEnd
import HandS.Head0
import HandS.Head1
import HandS.Head2
set_option Elab.async false
set_option linter.all false
set_option maxRecDepth 100000
set_option maxHeartbeats 16000000
namespace GA
open PySem PySem.Spec PyProof.Rows L2

abbrev D := PyData
/-! results -/
inductive R (α : Type) where
  | ok (a : α) | err (k : Nat) | bad
def R.bind {α β : Type} : R α → (α → R β) → R β
  | .ok a, f => f a
  | .err k, _ => .err k
  | .bad, _ => .bad
def R.map {α β : Type} (f : α → β) : R α → R β
  | .ok a => .ok (f a)
  | .err k => .err k
  | .bad => .bad
instance : Monad R where
  pure := R.ok
  bind := R.bind

/-- what holds of every way -/
structure WP (α : Type) where
  run : (α → Prop) → (Nat → Prop) → Prop
  mono : ∀ (P P' : α → Prop) (E E' : Nat → Prop), (∀ a, P a → P' a) → (∀ k, E k → E' k) → run P E → run P' E'
def WP.ret {α : Type} (a : α) : WP α := ⟨fun P _ => P a, fun _ _ _ _ h _ p => h a p⟩
def WP.bind {α β : Type} (m : WP α) (f : α → WP β) : WP β :=
  ⟨fun P E => m.run (fun a => (f a).run P E) E, fun P P' E E' h g p => m.mono _ _ _ _ (fun a q => (f a).mono _ _ _ _ h g q) g p⟩
def WP.lift {α : Type} (r : R α) : WP α :=
  ⟨fun P E => match r with | .ok a => P a | .err k => E k | .bad => False, fun P P' E E' h g p => by cases r <;> first | exact h _ p | exact g _ p | exact p⟩
theorem WP.bind_ret {α β : Type} (a : α) (f : α → WP β) : (WP.ret a).bind f = f a := rfl
theorem WP.lift_ok {α : Type} (a : α) : WP.lift (R.ok a) = WP.ret a := rfl
theorem WP.lift_bind {α β : Type} (r : R α) (f : α → R β) : WP.lift (r.bind f) = (WP.lift r).bind fun a => WP.lift (f a) := by
  cases r <;> rfl
theorem WP.bind_assoc {α β γ : Type} (m : WP α) (f : α → WP β) (g : β → WP γ) : (m.bind f).bind g = m.bind fun a => (f a).bind g := rfl

/-! data in the heap: an error of a kind k is .dict [(.int k, .none)] -/
mutual
inductive Rp (K : Nat → Addr) (F : Hp) : V → D → Prop
  | non : Rp K F .non .none
  | bl (b : Bool) : Rp K F (.bl b) (.bool b)
  | int (i : Int) : Rp K F (.int i) (.int i)
  | str (x : Str) : Rp K F (.str x) (.str x)
  | lst {a : Addr} {xs : List V} {ds : List D} : F a = some (.lst xs) → RpAll K F xs ds → Rp K F (.ref a) (.list ds)
  | tup {a : Addr} {xs : List V} {ds : List D} : F a = some (.tup xs) → RpAll K F xs ds → Rp K F (.ref a) (.tuple ds)
  | exc {a : Addr} {k : Nat} {φ : Heap → Prop} : F a = some (.ext φ) → (∀ h, φ h → ∃ o vs, h.get? a = some o ∧ o.cls = .ref (K k) ∧ o.dict = none ∧ o.data = .fields vs) → Rp K F (.ref a) (.dict [(.int k, .none)])
inductive RpAll (K : Nat → Addr) (F : Hp) : List V → List D → Prop
  | nil : RpAll K F [] []
  | cons {v : V} {vs : List V} {d : D} {ds : List D} : Rp K F v d → RpAll K F vs ds → RpAll K F (v :: vs) (d :: ds)
end
/-! the frozen part of the heap -/
abbrev Ex (H H' : Hp) : Prop := Evl.Ex H H'
structure C where
  F0 : Hp
  H0 : Hp
  ex : Addr → Prop
  rinv : Hp → Prop
  rst : ∀ H H' : Hp, (∀ a, ex a → H' a = H a) → rinv H → rinv H'
structure Bs (c : C) (F H : Hp) : Prop where
  fh : Ex F H
  f0 : Ex c.F0 F
  h0 : ∀ a o, c.H0 a = some o → ¬ c.ex a → H a = some o
  nw : ∀ a o, F a = some o → c.F0 a = some o ∨ c.H0 a = none
  fx : ∀ a, c.ex a → F a = none
  hx : ∀ a, c.ex a → c.H0 a ≠ none
  xh : ∀ a, c.ex a → H a ≠ none
  rv : c.rinv H
structure Res where
  ok : Hp → Hp → V → List Addr → Prop
  mono : ∀ (F F' H H' : Hp) (v : V) (fp : List Addr), Ex F F' → (∀ a, a ∈ fp → H' a = H a) → ok F H v fp → ok F' H' v fp
inductive Sl where
  | non | imm (d : D) | val (v : V) | res (r : Res)
def SlOk (K : Nat → Addr) (F H : Hp) (o : Option V) (fp : List Addr) : Sl → Prop
  | .non => True
  | .imm d => ∃ v, o = some v ∧ Rp K F v d
  | .val v => o = some v
  | .res r => ∃ v, o = some v ∧ r.ok F H v fp
structure OkP (K : Nat → Addr) (c : C) (F H : Hp) (σ : L2.St) (Γ : List Sl) (π : Nat → List Addr) : Prop where
  bs : Bs c F H
  len : σ.length = Γ.length
  sl : ∀ i s, Γ[i]? = some s → ∃ o, σ[i]? = some o ∧ SlOk K F H o (π i) s
  fr : ∀ i a, a ∈ π i → F a = none ∧ H a ≠ none ∧ c.H0 a = none
  dj : ∀ i j a, a ∈ π i → a ∈ π j → i = j
def Ok (K : Nat → Addr) (c : C) (F H : Hp) (σ : L2.St) (Γ : List Sl) : Prop := ∃ π, OkP K c F H σ Γ π
/-- what is wanted of an error -/
def Pres (c : C) (H : Hp) : Prop := (∀ a o, c.H0 a = some o → ¬ c.ex a → H a = some o) ∧ (∀ a, c.ex a → H a ≠ none) ∧ c.rinv H
def eK (K : Nat → Addr) (E : XK) (c : C) : Nat → Prop := fun k => ∀ H', Pres c H' → E (.ref (K k)) none H'

/-! data and extension -/
section
variable {K : Nat → Addr} {F F' H H' : Hp} {c : C} {σ : L2.St} {Γ : List Sl}
mutual
theorem dp_mono (e : Ex F F') : ∀ {v : V} {d : D}, Rp K F v d → Rp K F' v d
  | _, _, .non => .non
  | _, _, .bl b => .bl b
  | _, _, .int i => .int i
  | _, _, .str x => .str x
  | _, _, .lst h t => .lst (e _ _ h) (dps_mono e t)
  | _, _, .tup h t => .tup (e _ _ h) (dps_mono e t)
  | _, _, .exc h t => .exc (e _ _ h) t
theorem dps_mono (e : Ex F F') : ∀ {vs : List V} {ds : List D}, RpAll K F vs ds → RpAll K F' vs ds
  | _, _, .nil => .nil
  | _, _, .cons h t => .cons (dp_mono e h) (dps_mono e t)
end
mutual
/-- the library's reading of data without errors -/
theorem rp_dp {W : PySem.W.Frag} : ∀ {v : V} {d : D}, Rp K F v d → d.canLay0 = true → Dp W F v d
  | _, _, .non, _ => .non
  | _, _, .bl b, _ => .bl b
  | _, _, .int i, _ => .int i
  | _, _, .str x, _ => .str x
  | _, _, .lst h t, z => .lst (.inl (.inl h)) (rps_dp t (by simpa [PyData.canLay0] using z))
  | _, _, .tup h t, z => .tup (.inl (.inl h)) (rps_dp t (by simpa [PyData.canLay0] using z))
  | _, _, .exc h t, z => by simp [PyData.canLay0] at z
theorem rps_dp {W : PySem.W.Frag} : ∀ {vs : List V} {ds : List D}, RpAll K F vs ds → PyData.canLayAll0 ds = true → DpAll W F vs ds
  | _, _, .nil, _ => .nil
  | _, _, .cons (d := d) (ds := ds) h t, z => by
    have z' : d.canLay0 = true ∧ PyData.canLayAll0 ds = true := by simpa [PyData.canLayAll0] using z
    exact .cons (rp_dp h z'.1) (rps_dp t z'.2)
end
theorem sl_mono {o : Option V} {fp : List Addr} {s : Sl} (e : Ex F F') (h : ∀ a, a ∈ fp → H' a = H a) (x : SlOk K F H o fp s) : SlOk K F' H' o fp s := by
  cases s with
  | non => trivial
  | imm d => obtain ⟨v, e1, e2⟩ := x; exact ⟨v, e1, dp_mono e e2⟩
  | val v => exact x
  | res r => obtain ⟨v, e1, e2⟩ := x; exact ⟨v, e1, r.mono _ _ _ _ _ _ e h e2⟩
theorem Ok.bs (x : Ok K c F H σ Γ) : Bs c F H := x.choose_spec.bs
theorem Ok.pres (x : Ok K c F H σ Γ) : Pres c H := ⟨x.bs.h0, x.bs.xh, x.bs.rv⟩
/-- the heap goes on: all but the excluded cells stand, the frozen part takes new cells alone -/
theorem OkP.step {π : Nat → List Addr} (x : OkP K c F H σ Γ π) (eh : ∀ a o, H a = some o → ¬ c.ex a → H' a = some o) (xh : ∀ a, c.ex a → H' a ≠ none) (rv : c.rinv H') (ef : Ex F F') (efh : Ex F' H') (nw : ∀ a o, F' a = some o → F a = some o ∨ H a = none) : OkP K c F' H' σ Γ π := by
  have hown : ∀ i a, a ∈ π i → H' a = H a := fun i a ha => by
    obtain ⟨_, h2, h3⟩ := x.fr i a ha
    cases e : H a with
    | none => exact absurd e h2
    | some o => exact eh a o e fun z => x.bs.hx a z h3
  refine ⟨⟨efh, fun a o h => ef a o (x.bs.f0 a o h), fun a o h n => eh a o (x.bs.h0 a o h n) n, fun a o h => ?_, fun a h => ?_, x.bs.hx, xh, rv⟩, x.len, fun i s h => ?_, fun i a h => ?_, x.dj⟩
  · rcases nw a o h with q | q
    · exact x.bs.nw a o q
    · refine .inr ?_
      cases e : c.H0 a with
      | none => rfl
      | some u =>
        by_cases n : c.ex a
        · exact absurd q (x.bs.xh a n)
        · rw [x.bs.h0 a u e n] at q; cases q
  · cases e : F' a with
    | none => rfl
    | some o =>
      rcases nw a o e with q | q
      · rw [x.bs.fx a h] at q; cases q
      · exact absurd q (x.bs.xh a h)
  · obtain ⟨o, h1, h2⟩ := x.sl i s h
    exact ⟨o, h1, sl_mono ef (fun a ha => hown i a ha) h2⟩
  · obtain ⟨h1, h2, h3⟩ := x.fr i a h
    refine ⟨?_, by rw [hown i a h]; exact h2, h3⟩
    cases e : F' a with
    | none => rfl
    | some o =>
      rcases nw a o e with q | q
      · rw [h1] at q; cases q
      · exact absurd q h2
theorem Ok.step (x : Ok K c F H σ Γ) (eh : ∀ a o, H a = some o → ¬ c.ex a → H' a = some o) (xh : ∀ a, c.ex a → H' a ≠ none) (rv : c.rinv H') (ef : Ex F F') (efh : Ex F' H') (nw : ∀ a o, F' a = some o → F a = some o ∨ H a = none) : Ok K c F' H' σ Γ :=
  x.elim fun π h => ⟨π, h.step eh xh rv ef efh nw⟩
/-- the heap grows -/
theorem Ok.grow (x : Ok K c F H σ Γ) (eh : Ex H H') (ef : Ex F F') (efh : Ex F' H') (nw : ∀ a o, F' a = some o → F a = some o ∨ H a = none) : Ok K c F' H' σ Γ := by
  have h1 : ∀ a, c.ex a → H' a = H a := fun a h => by
    cases e : H a with
    | none => exact absurd e (x.bs.xh a h)
    | some o => exact eh a o e
  exact x.step (fun a o h _ => eh a o h) (fun a h => by rw [h1 a h]; exact x.bs.xh a h) (c.rst H H' h1 x.bs.rv) ef efh nw
theorem ex_upd {p : Addr} {o : HO} (e : Ex F H) : Ex (upd F p o) (upd H p o) := fun a u h => by
  by_cases q : a = p
  · subst q; rw [upd_same] at h ⊢; exact h
  · rw [upd_ne q] at h ⊢; exact e a u h
theorem ex_none {p : Addr} (e : Ex F H) (h : H p = none) : F p = none := Evl.fresh_back e h
/-- a new cell, frozen at once -/
theorem Ok.alloc {p : Addr} {o : HO} (x : Ok K c F H σ Γ) (h : H p = none) : Ok K c (upd F p o) (upd H p o) σ Γ :=
  x.grow (Evl.Ex.new h) (Evl.Ex.new (ex_none x.bs.fh h)) (ex_upd x.bs.fh) fun a u e => by
    by_cases q : a = p
    · subst q; exact .inr h
    · rw [upd_ne q] at e; exact .inl e
end
end GA
namespace GA
open PySem PySem.Spec PyProof.Rows L2

def R.ofO {α : Type} : Option α → R α
  | some a => .ok a
  | none => .bad
abbrev WP.opt {α : Type} (o : Option α) : WP α := .lift (.ofO o)
theorem WP.opt_run {α : Type} {o : Option α} {P : α → Prop} {E : Nat → Prop} (h : (WP.opt o).run P E) : ∃ a, o = some a ∧ P a := by
  cases o with
  | none => exact h.elim
  | some a => exact ⟨a, rfl, h⟩

/-- the state goes on: the frozen part takes new cells alone, all but the excluded cells stand -/
structure Gr (c : C) (F H F' H' : Hp) : Prop where
  f : Ex F F'
  h : ∀ a o, H a = some o → ¬ c.ex a → H' a = some o
  n : ∀ a o, F' a = some o → ¬ c.ex a → F a = some o ∨ H a = none
theorem exR (H : Hp) : Ex H H := Evl.Ex.refl H
theorem exT {H H1 H2 : Hp} (a : Ex H H1) (b : Ex H1 H2) : Ex H H2 := Evl.Ex.trans a b
theorem Gr.refl {c : C} {F H : Hp} : Gr c F H F H := ⟨exR F, fun _ _ h _ => h, fun _ _ h _ => .inl h⟩
theorem Gr.trans {c : C} {F H F1 H1 F2 H2 : Hp} (a : Gr c F H F1 H1) (b : Gr c F1 H1 F2 H2) : Gr c F H F2 H2 := ⟨exT a.f b.f, fun p o h n => b.h p o (a.h p o h n) n, fun p o h n => by
  rcases b.n p o h n with q | q
  · exact a.n p o q n
  · refine .inr ?_
    cases e : H p with
    | none => rfl
    | some u => rw [a.h p u e n] at q; cases q⟩
theorem Gr.new {c : C} {F H : Hp} {p : Addr} {o : HO} (f : F p = none) (h : H p = none) : Gr c F H (upd F p o) (upd H p o) := ⟨Evl.Ex.new f, fun a u e _ => Evl.Ex.new h a u e, fun a u e _ => by
  by_cases q : a = p
  · subst q; exact .inr h
  · rw [upd_ne q] at e; exact .inl e⟩

/-! readings -/
def tW (K : Nat → Addr) (c : C) (E : XK) (Γ : List Sl) (m : WP D) : TE := fun σ H Q => ∃ F, Ok K c F H σ Γ ∧ m.run (fun d => ∀ v F' H', Ok K c F' H' σ Γ → Gr c F H F' H' → Rp K F' v d → Q v H') (eK K E c)
/-- it may be read: frozen, or a list of frozen things that stands now -/
def RdOk (K : Nat → Addr) (c : C) (F H : Hp) (v : V) (d : D) : Prop := Rp K F v d ∨ ∃ a vs ds, v = .ref a ∧ d = .list ds ∧ H a = some (.lst vs) ∧ ¬ c.ex a ∧ RpAll K F vs ds
def tR (K : Nat → Addr) (c : C) (E : XK) (Γ : List Sl) (m : WP D) : TE := fun σ H Q => ∃ F, Ok K c F H σ Γ ∧ m.run (fun d => ∀ v F' H', Ok K c F' H' σ Γ → Gr c F H F' H' → RdOk K c F' H' v d → Q v H') (eK K E c)
/-- a new list of one's own -/
def tO (K : Nat → Addr) (c : C) (E : XK) (Γ : List Sl) (m : WP (List D)) : TE := fun σ H Q => ∃ F, Ok K c F H σ Γ ∧ m.run (fun ds => ∀ p vs F' H', Ok K c F' H' σ Γ → Gr c F H F' H' → H' p = none → RpAll K F' vs ds → Q (.ref p) (upd H' p (.lst vs))) (eK K E c)
def tT (K : Nat → Addr) (c : C) (E : XK) (Γ : List Sl) (m : WP Bool) : TT := fun σ H Q => ∃ F, Ok K c F H σ Γ ∧ m.run (fun b => ∀ F' H', Ok K c F' H' σ Γ → Gr c F H F' H' → Q b H') (eK K E c)
def tA (K : Nat → Addr) (c : C) (E : XK) (Γ : List Sl) (m : WP (List D)) : TA := fun σ H Q => ∃ F, Ok K c F H σ Γ ∧ m.run (fun ds => ∀ vs F' H', Ok K c F' H' σ Γ → Gr c F H F' H' → RpAll K F' vs ds → Q vs H') (eK K E c)
inductive RdAll (K : Nat → Addr) (c : C) (F H : Hp) : List V → List D → Prop
  | nil : RdAll K c F H [] []
  | cons {v : V} {vs : List V} {d : D} {ds : List D} : RdOk K c F H v d → RdAll K c F H vs ds → RdAll K c F H (v :: vs) (d :: ds)
def tRA (K : Nat → Addr) (c : C) (E : XK) (Γ : List Sl) (m : WP (List D)) : TA := fun σ H Q => ∃ F, Ok K c F H σ Γ ∧ m.run (fun ds => ∀ vs F' H', Ok K c F' H' σ Γ → Gr c F H F' H' → RdAll K c F' H' vs ds → Q vs H') (eK K E c)

section
variable {X : Cx} {K : Nat → Addr} {c : C} {E : XK} {Γ : List Sl} {e a b : Expr} {m ma mb : WP D} {pos : Pos} {F F' H H' : Hp} {σ : L2.St}
theorem pe_weak {t t' : TE} (h : PE X e t) (w : ∀ σ H Q, t' σ H Q → t σ H Q) : PE X e t' := ⟨fun pins s σ H Q I q => h.run pins s σ H Q I (w σ H Q q)⟩
theorem pt_weak {t t' : TT} (h : PT X e t) (w : ∀ σ H Q, t' σ H Q → t σ H Q) : PT X e t' := ⟨fun pins s σ H Q I q => h.run pins s σ H Q I (w σ H Q q)⟩
theorem pa_weak {es : List Expr} {t t' : TA} (h : PA X es t) (w : ∀ σ H Q, t' σ H Q → t σ H Q) : PA X es t' := ⟨fun po pins s σ H Q I q => h.run po pins s σ H Q I (w σ H Q q)⟩
theorem ps_weak {st : Stmt} {t t' : TS} (h : PS X st t) (w : ∀ D σ H, t' D σ H → t D σ H) : PS X st t' := ⟨fun pins s σ H D I q => h.run pins s σ H D I (w D σ H q)⟩
theorem pss_weak {st : List Stmt} {t t' : TS} (h : PSs X st t) (w : ∀ D σ H, t' D σ H → t D σ H) : PSs X st t' := ⟨fun pins s σ H D I q => h.run pins s σ H D I (w D σ H q)⟩

theorem RdOk.rp {v : V} {d : D} (x : RdOk K c F H v d) (e : Ex F H) : Rp K H v d := by
  rcases x with x | ⟨a, vs, ds, rfl, rfl, h, _, t⟩
  · exact dp_mono e x
  · exact .lst h (dps_mono e t)
theorem RdOk.mono {v : V} {d : D} (x : RdOk K c F H v d) (g : Gr c F H F' H') : RdOk K c F' H' v d := by
  rcases x with x | ⟨a, vs, ds, e1, e2, h1, n, t⟩
  · exact .inl (dp_mono g.f x)
  · exact .inr ⟨a, vs, ds, e1, e2, g.h a _ h1 n, n, dps_mono g.f t⟩
theorem RdOk.list {v : V} {ds : List D} (x : RdOk K c F H v (.list ds)) (e : Ex F H) : ∃ a vs, v = .ref a ∧ H a = some (.lst vs) ∧ RpAll K F vs ds := by
  rcases x with x | ⟨a, vs, ds', rfl, e2, h, _, t⟩
  · cases x with
    | lst h t => exact ⟨_, _, rfl, e _ _ h, t⟩
  · cases e2
    exact ⟨a, vs, rfl, h, t⟩
theorem RdOk.tup {v : V} {ds : List D} (x : RdOk K c F H v (.tuple ds)) (e : Ex F H) : ∃ a vs, v = .ref a ∧ H a = some (.tup vs) ∧ RpAll K F vs ds := by
  rcases x with x | ⟨a, vs, ds', rfl, e2, h, _, t⟩
  · cases x with
    | tup h t => exact ⟨_, _, rfl, e _ _ h, t⟩
  · cases e2
theorem RdOk.int {v : V} {i : Int} (x : RdOk K c F H v (.int i)) : v = .int i := by
  rcases x with x | ⟨a, vs, ds', rfl, e2, h, _, t⟩
  · cases x; rfl
  · cases e2
theorem RdOk.bl {v : V} {i : Bool} (x : RdOk K c F H v (.bool i)) : v = .bl i := by
  rcases x with x | ⟨a, vs, ds', rfl, e2, h, _, t⟩
  · cases x; rfl
  · cases e2
theorem RdOk.str {v : V} {i : Str} (x : RdOk K c F H v (.str i)) : v = .str i := by
  rcases x with x | ⟨a, vs, ds', rfl, e2, h, _, t⟩
  · cases x; rfl
  · cases e2
theorem RdOk.non {v : V} (x : RdOk K c F H v .none) : v = .non := by
  rcases x with x | ⟨a, vs, ds', rfl, e2, h, _, t⟩
  · cases x; rfl
  · cases e2
theorem RdAll.mono : ∀ {vs : List V} {ds : List D}, RdAll K c F H vs ds → Gr c F H F' H' → RdAll K c F' H' vs ds
  | _, _, .nil, _ => .nil
  | _, _, .cons x t, g => .cons (x.mono g) (t.mono g)
/-- a frozen value may be read -/
theorem e_rd (h : PE X e (tW K c E Γ m)) : PE X e (tR K c E Γ m) := pe_weak h fun σ H Q ⟨F, o, r⟩ => ⟨F, o, m.mono _ _ _ _ (fun d p v F' H' o' ef x => p v F' H' o' ef (.inl x)) (fun _ z => z) r⟩
/-- a new list is frozen -/
theorem e_frz {m : WP (List D)} (h : PE X e (tO K c E Γ m)) : PE X e (tW K c E Γ (m.bind fun ds => .ret (.list ds))) := pe_weak h fun σ H Q ⟨F, o, r⟩ =>
  ⟨F, o, m.mono _ _ _ _ (fun ds p a vs F' H' o' g hp x => p (.ref a) (upd F' a (.lst vs)) _ (o'.alloc hp) (g.trans (.new (ex_none o'.bs.fh hp) hp))
    (.lst upd_same (dps_mono (Evl.Ex.new (ex_none o'.bs.fh hp)) x))) (fun _ z => z) r⟩

/-! names and constants -/
theorem e_var (i : Nat) {x : Str} {d : D} (hN : X.N[i]? = some x) (hv : Vis X.env.scope x) (hi : Γ[i]? = some (.imm d)) (hd : (x == ("__debug__" : Str)) = false := by decide) (hcd : (x == ("__classdict__" : Str)) = false := by decide) : PE X (.Name x pos) (tW K c E Γ (.ret d)) :=
  pe_weak (pe_var hN hv hd hcd) fun σ H Q ⟨F, o, r⟩ => by
    obtain ⟨π, x⟩ := id o
    obtain ⟨ov, h1, v, rfl, h2⟩ := x.sl i _ hi
    exact ⟨v, h1, r v F H o .refl h2⟩
theorem e_val (i : Nat) {x : Str} {v : V} (hN : X.N[i]? = some x) (hv : Vis X.env.scope x) (hi : Γ[i]? = some (.val v)) (hd : (x == ("__debug__" : Str)) = false := by decide) (hcd : (x == ("__classdict__" : Str)) = false := by decide) : PE X (.Name x pos) (fun σ H Q => ∃ F, Ok K c F H σ Γ ∧ Q v H) :=
  pe_weak (pe_var hN hv hd hcd) fun σ H Q ⟨F, o, r⟩ => by
    obtain ⟨π, x⟩ := id o
    obtain ⟨ov, h1, h2⟩ := x.sl i _ hi
    exact ⟨v, h1.trans (by rw [h2]), r⟩
theorem e_int {i : Int} {j : Nat} : PE X (.Constant (.int i) j pos) (tW K c E Γ (.ret (.int i))) := pe_weak pe_int fun σ H Q ⟨F, o, r⟩ => r _ F H o .refl (.int i)
theorem e_bl {i : Bool} {j : Nat} : PE X (.Constant (.bool i) j pos) (tW K c E Γ (.ret (.bool i))) := pe_weak pe_bl fun σ H Q ⟨F, o, r⟩ => r _ F H o .refl (.bl i)
theorem e_str {i : Str} {j : Nat} : PE X (.Constant (.str i) j pos) (tW K c E Γ (.ret (.str i))) := pe_weak pe_str fun σ H Q ⟨F, o, r⟩ => r _ F H o .refl (.str i)
theorem e_non {j : Nat} : PE X (.Constant .none j pos) (tW K c E Γ (.ret .none)) := pe_weak pe_non fun σ H Q ⟨F, o, r⟩ => r _ F H o .refl .non
/-- a list of one's own, read -/
def own (K : Nat → Addr) (ds : List D) : Sl := .res ⟨fun F H v fp => ∃ a vs, v = .ref a ∧ fp = [a] ∧ H a = some (.lst vs) ∧ RpAll K F vs ds, fun F F' H H' v fp e h ⟨a, vs, e1, e2, h1, t⟩ => ⟨a, vs, e1, e2, by rw [h a (by rw [e2]; exact List.mem_singleton.mpr rfl)]; exact h1, dps_mono e t⟩⟩
theorem e_own (i : Nat) {x : Str} {ds : List D} (hN : X.N[i]? = some x) (hv : Vis X.env.scope x) (hi : Γ[i]? = some (own K ds)) (hd : (x == ("__debug__" : Str)) = false := by decide) (hcd : (x == ("__classdict__" : Str)) = false := by decide) : PE X (.Name x pos) (tR K c E Γ (.ret (.list ds))) :=
  pe_weak (pe_var hN hv hd hcd) fun σ H Q ⟨F, o, r⟩ => by
    obtain ⟨π, x⟩ := id o
    obtain ⟨ov, h1, v, rfl, a, vs, rfl, h2, h3, h4⟩ := x.sl i _ hi
    exact ⟨_, h1, r _ F H o .refl (.inr ⟨a, vs, ds, rfl, rfl, h3, fun z => x.bs.hx a z (x.fr i a (by rw [h2]; exact List.mem_singleton.mpr rfl)).2.2, h4⟩)⟩

/-! a binary operation, by its values -/
/-- what is asked of two read values gives what f says, the result frozen -/
def OpD (K : Nat → Addr) (r : R2) (f : D → D → Option D) : Prop := ∀ (c : C) (Γ : List Sl) (σ : L2.St) (F H : Hp) (x y : V) (d e : D) (z : D) (Q : VK), Ok K c F H σ Γ → RdOk K c F H x d → RdOk K c F H y e → f d e = some z →
  (∀ v F' H', Ok K c F' H' σ Γ → Gr c F H F' H' → Rp K F' v z → Q v H') → r x y H Q
theorem OpD.or {r r' : R2} {f g h : D → D → Option D} (hr : OpD K r f) (hr' : OpD K r' g) (hh : ∀ d e z, h d e = some z → f d e = some z ∨ g d e = some z) : OpD K (fun x y H Q => r x y H Q ∨ r' x y H Q) h :=
  fun c Γ σ F H x y d e z Q o hx hy hf q => (hh d e z hf).elim (fun hf => .inl (hr c Γ σ F H x y d e z Q o hx hy hf q)) fun hf => .inr (hr' c Γ σ F H x y d e z Q o hx hy hf q)
theorem t_op {r : R2} {f : D → D → Option D} (hr : OpD K r f) (σ : L2.St) (H : Hp) (Q : VK) (h : tW K c E Γ (ma.bind fun x => mb.bind fun y => .opt (f x y)) σ H Q) : tOp r (tR K c E Γ ma) (tR K c E Γ mb) σ H Q := by
  obtain ⟨F, o, h⟩ := h
  refine ⟨F, o, ma.mono _ _ _ _ (fun d p v F1 H1 o1 g1 x1 => ?_) (fun _ z => z) h⟩
  refine ⟨F1, o1, mb.mono _ _ _ _ (fun e p w F2 H2 o2 g2 x2 => ?_) (fun _ z => z) p⟩
  obtain ⟨z, hz, p⟩ := WP.opt_run p
  exact hr c Γ σ F2 H2 v w d e z Q o2 (x1.mono g2) x2 hz fun v F' H' o' g' x' => p v F' H' o' ((g1.trans g2).trans g') x'
theorem e_op {op : Operator} {r : R2} {f : D → D → Option D} (ho : OpR X (binaryOp op) r) (hr : OpD K r f) (ha : PE X a (tR K c E Γ ma)) (hb : PE X b (tR K c E Γ mb)) : PE X (.BinOp a op b pos) (tW K c E Γ (ma.bind fun x => mb.bind fun y => .opt (f x y))) :=
  pe_weak (pe_op ho ha hb) (t_op hr)
theorem e_cmp {op : CmpOp} {r : R2} {f : D → D → Option D} (ho : OpR X (compareOp op) r) (hr : OpD K r f) (ha : PE X a (tR K c E Γ ma)) (hb : PE X b (tR K c E Γ mb)) (hm : behindInMarks op b = false) : PE X (.Compare a [op] [b] pos) (tW K c E Γ (ma.bind fun x => mb.bind fun y => .opt (f x y))) :=
  pe_weak (pe_cmpR ho ha hb hm) (t_op hr)
theorem e_ix {r : R2} {f : D → D → Option D} (ho : IxR X r) (hr : OpD K r f) (ha : PE X a (tR K c E Γ ma)) (hb : PE X b (tR K c E Γ mb)) (hs : PlainIx b) : PE X (.Subscript a b pos) (tW K c E Γ (ma.bind fun x => mb.bind fun y => .opt (f x y))) :=
  pe_weak (pe_ix ho ha hb hs) (t_op hr)
/-! tests -/
def dBool : D → Option Bool
  | .bool b => some b
  | _ => none
theorem t_bool {σ : L2.St} {H : Hp} {Q : Bool → Hp → Prop} (h : tT K c E Γ (ma.bind fun x => .opt (dBool x)) σ H Q) : tB (tW K c E Γ ma) σ H Q := by
  obtain ⟨F, o, h⟩ := h
  refine ⟨F, o, ma.mono _ _ _ _ (fun d p v F1 H1 o1 g1 x1 => ?_) (fun _ z => z) h⟩
  obtain ⟨z, hz, p⟩ := WP.opt_run p
  cases d <;> simp [dBool] at hz
  subst hz
  cases x1
  exact ⟨_, rfl, p F1 H1 o1 g1⟩
/-- a value that is a bool, as a test -/
theorem q_val (h : PE X e (tW K c E Γ ma)) (he : ∀ whole, isTrue e X.env whole = (do let v ← whole; standAt e.pos; holding [v] (truthy v)) := by intro _; rfl) : PT X e (tT K c E Γ (ma.bind fun x => .opt (dBool x))) :=
  pt_weak (pt_val h he) fun σ H Q => t_bool
theorem q_cmp {op : CmpOp} {r : R2} {f : D → D → Option D} (ho : OpR X (compareOp op) r) (hr : OpD K r f) (ha : PE X a (tR K c E Γ ma)) (hb : PE X b (tR K c E Γ mb)) (hm : behindInMarks op b = false) :
    PT X (.Compare a [op] [b] pos) (tT K c E Γ ((ma.bind fun x => mb.bind fun y => .opt (f x y)).bind fun x => .opt (dBool x))) :=
  pt_weak (pt_cmpR ho ha hb hm) fun σ H Q h => by
    obtain ⟨F, o, h⟩ := h
    refine ⟨F, o, ma.mono _ _ _ _ (fun d p v F1 H1 o1 g1 x1 => ?_) (fun _ z => z) h⟩
    refine ⟨F1, o1, mb.mono _ _ _ _ (fun e p w F2 H2 o2 g2 x2 => ?_) (fun _ z => z) p⟩
    obtain ⟨z, hz, p⟩ := WP.opt_run p
    refine hr c Γ σ F2 H2 v w d e z _ o2 (x1.mono g2) x2 hz fun v F' H' o' g' x' => ?_
    obtain ⟨y, hy, p⟩ := WP.opt_run p
    cases z <;> simp [dBool] at hy
    subst hy
    cases x'
    exact ⟨_, rfl, p F' H' o' ((g1.trans g2).trans g')⟩
variable {qa qb : WP Bool} {rest : List Expr}
theorem q_not (h : PT X e (tT K c E Γ qa)) : PT X (.UnaryOp .Not e pos) (tT K c E Γ (qa.bind fun b => .ret (!b))) := pt_weak (pt_not h) fun σ H Q ⟨F, o, h⟩ => ⟨F, o, h⟩
theorem w_and1 (h : PT X e (tT K c E Γ qa)) : PW X (.BoolOp .And [e] pos) (tT K c E Γ qa) := pw_and1 h
theorem w_or1 (h : PT X e (tT K c E Γ qa)) : PW X (.BoolOp .Or [e] pos) (tT K c E Γ qa) := pw_or1 h
theorem w_and (h : PT X a (tT K c E Γ qa)) (h2 : PW X (.BoolOp .And (b :: rest) pos) (tT K c E Γ qb)) : PW X (.BoolOp .And (a :: b :: rest) pos) (tT K c E Γ (qa.bind fun x => if x = true then qb else .ret false)) :=
  ⟨fun wh pins s σ H Q I hw => (pw_and h h2).run wh pins s σ H Q I (by
    obtain ⟨F, o, hw⟩ := hw
    refine ⟨F, o, qa.mono _ _ _ _ (fun d p F1 H1 o1 g1 => ?_) (fun _ z => z) hw⟩
    cases d with
    | false => exact p F1 H1 o1 g1
    | true => exact ⟨F1, o1, qb.mono _ _ _ _ (fun d p F2 H2 o2 g2 => p F2 H2 o2 (g1.trans g2)) (fun _ z => z) p⟩)⟩
theorem w_or (h : PT X a (tT K c E Γ qa)) (h2 : PW X (.BoolOp .Or (b :: rest) pos) (tT K c E Γ qb)) : PW X (.BoolOp .Or (a :: b :: rest) pos) (tT K c E Γ (qa.bind fun x => if x = true then .ret true else qb)) :=
  ⟨fun wh pins s σ H Q I hw => (pw_or h h2).run wh pins s σ H Q I (by
    obtain ⟨F, o, hw⟩ := hw
    refine ⟨F, o, qa.mono _ _ _ _ (fun d p F1 H1 o1 g1 => ?_) (fun _ z => z) hw⟩
    cases d with
    | true => exact p F1 H1 o1 g1
    | false => exact ⟨F1, o1, qb.mono _ _ _ _ (fun d p F2 H2 o2 g2 => p F2 H2 o2 (g1.trans g2)) (fun _ z => z) p⟩)⟩
/-- and, or, not as values -/
theorem e_and (ha : PE X a (tW K c E Γ ma)) (hb : PE X (.BoolOp .And (b :: rest) pos) (tW K c E Γ mb)) : PE X (.BoolOp .And (a :: b :: rest) pos) (tW K c E Γ ((ma.bind fun x => .opt (dBool x)).bind fun x => if x = true then mb else .ret (.bool false))) :=
  pe_weak (pe_and ha hb) fun σ H Q h => by
    obtain ⟨F, o, hw⟩ := h
    refine ⟨F, o, ma.mono _ _ _ _ (fun d p v F1 H1 o1 g1 x1 => ?_) (fun _ z => z) hw⟩
    obtain ⟨z, hz, p⟩ := WP.opt_run p
    cases d <;> simp [dBool] at hz
    subst hz
    cases x1
    refine ⟨_, rfl, ?_⟩
    rename_i z _
    cases z with
    | false => exact p _ F1 H1 o1 g1 (.bl false)
    | true => exact ⟨F1, o1, mb.mono _ _ _ _ (fun d p v F2 H2 o2 g2 x2 => p v F2 H2 o2 (g1.trans g2) x2) (fun _ z => z) p⟩
theorem e_or (ha : PE X a (tW K c E Γ ma)) (hb : PE X (.BoolOp .Or (b :: rest) pos) (tW K c E Γ mb)) : PE X (.BoolOp .Or (a :: b :: rest) pos) (tW K c E Γ ((ma.bind fun x => .opt (dBool x)).bind fun x => if x = true then .ret (.bool true) else mb)) :=
  pe_weak (pe_or ha hb) fun σ H Q h => by
    obtain ⟨F, o, hw⟩ := h
    refine ⟨F, o, ma.mono _ _ _ _ (fun d p v F1 H1 o1 g1 x1 => ?_) (fun _ z => z) hw⟩
    obtain ⟨z, hz, p⟩ := WP.opt_run p
    cases d <;> simp [dBool] at hz
    subst hz
    cases x1
    refine ⟨_, rfl, ?_⟩
    rename_i z _
    cases z with
    | true => exact p _ F1 H1 o1 g1 (.bl true)
    | false => exact ⟨F1, o1, mb.mono _ _ _ _ (fun d p v F2 H2 o2 g2 x2 => p v F2 H2 o2 (g1.trans g2) x2) (fun _ z => z) p⟩
theorem e_last {op : BoolOp} (ha : PE X a (tW K c E Γ ma)) : PE X (.BoolOp op [a] pos) (tW K c E Γ ma) := pe_one ha
theorem e_not (ha : PE X a (tW K c E Γ ma)) : PE X (.UnaryOp .Not a pos) (tW K c E Γ ((ma.bind fun x => .opt (dBool x)).bind fun b => .ret (.bool !b))) :=
  pe_weak (pe_not ha) fun σ H Q h => by
    obtain ⟨F, o, hw⟩ := h
    refine ⟨F, o, ma.mono _ _ _ _ (fun d p v F1 H1 o1 g1 x1 => ?_) (fun _ z => z) hw⟩
    obtain ⟨z, hz, p⟩ := WP.opt_run p
    cases d <;> simp [dBool] at hz
    subst hz
    cases x1
    exact ⟨_, rfl, p _ F1 H1 o1 g1 (.bl _)⟩
theorem e_if {t : Expr} (hq : PT X t (tT K c E Γ qa)) (ha : PE X a (tW K c E Γ ma)) (hb : PE X b (tW K c E Γ mb)) : PE X (.IfExp t a b pos) (tW K c E Γ (qa.bind fun x => if x = true then ma else mb)) :=
  pe_weak (pe_ifExp hq ha hb) fun σ H Q h => by
    obtain ⟨F, o, hw⟩ := h
    refine ⟨F, o, qa.mono _ _ _ _ (fun d p F1 H1 o1 g1 => ?_) (fun _ z => z) hw⟩
    cases d with
    | true => exact ⟨F1, o1, ma.mono _ _ _ _ (fun d p v F2 H2 o2 g2 x2 => p v F2 H2 o2 (g1.trans g2) x2) (fun _ z => z) p⟩
    | false => exact ⟨F1, o1, mb.mono _ _ _ _ (fun d p v F2 H2 o2 g2 x2 => p v F2 H2 o2 (g1.trans g2) x2) (fun _ z => z) p⟩
end
end GA
namespace GA
open PySem PySem.Spec PyProof.Rows L2

/-! what is walked -/
def YD (K : Nat → Addr) (F H : Hp) (x : V) (H1 : Hp) (d : D) : Prop := (H1 = H ∧ Rp K F x d) ∨ ∃ T x1 x2 d1 d2, x = .ref T ∧ H T = none ∧ H1 = upd H T (.tup [x1, x2]) ∧ d = .tuple [d1, d2] ∧ Rp K F x1 d1 ∧ Rp K F x2 d2
def SrcF (K : Nat → Addr) (F : Hp) (J : It) (ds : List D) : Prop := ∃ (G : Hp → Prop) (Y : Nat → Hp → V → Hp → Prop), Walk J ds.length G Y ∧ ∀ F' H', Ex F F' → Ex F' H' → G H' ∧ ∀ i x H1, i < ds.length → Y i H' x H1 → ∃ d, ds[i]? = some d ∧ YD K F' H' x H1 d
def SrcH (K : Nat → Addr) (c : C) (F H : Hp) (J : It) (ds : List D) : Prop := ∃ (G : Hp → Prop) (Y : Nat → Hp → V → Hp → Prop), Walk J ds.length G Y ∧ ∀ F' H', Gr c F H F' H' → Ex F' H' → G H' ∧ ∀ i x H1, i < ds.length → Y i H' x H1 → ∃ d, ds[i]? = some d ∧ YD K F' H' x H1 d
def tI (K : Nat → Addr) (c : C) (E : XK) (Γ : List Sl) (m : WP (List D)) : TI := fun σ H Q => ∃ F, Ok K c F H σ Γ ∧ m.run (fun ds => ∀ J F' H', Ok K c F' H' σ Γ → Gr c F H F' H' → ds.length ≤ sizeLine → SrcF K F' J ds → Q J H') (eK K E c)
def tJ (K : Nat → Addr) (c : C) (E : XK) (Γ : List Sl) (m : WP (List D)) : TI := fun σ H Q => ∃ F, Ok K c F H σ Γ ∧ m.run (fun ds => ∀ J F' H', Ok K c F' H' σ Γ → Gr c F H F' H' → ds.length ≤ sizeLine → SrcH K c F' H' J ds → Q J H') (eK K E c)
/-- a target: what is decoded, where the names stand then -/
def tG (K : Nat → Addr) (c : C) (Γ : List Sl) {α : Type} (f : D → Option α) (G : α → List Sl) (vs : List Nat) : TG := fun v σ H Q => ∃ F d a, Ok K c F H σ Γ ∧ Rp K F v d ∧ f d = some a ∧ ∀ σ', Ok K c F H σ' (G a) → wipe σ' vs = wipe σ vs → Q σ' H
def LenOk (W : PySem.W.Frag) (H : Hp) : Prop := ∀ a xs, SqL W H a xs ∨ SqT W H a xs → xs.length ≤ sizeLine

section
variable {X : Cx} {K : Nat → Addr} {c : C} {E : XK} {Γ : List Sl} {e a b tg : Expr} {m ma mb : WP D} {pos : Pos} {F F' H H' : Hp} {σ : L2.St}
theorem YD.ok {x : V} {H1 : Hp} {d : D} (y : YD K F H x H1 d) (o : Ok K c F H σ Γ) : ∃ F1, Ok K c F1 H1 σ Γ ∧ Gr c F H F1 H1 ∧ Rp K F1 x d := by
  rcases y with ⟨rfl, y⟩ | ⟨T, x1, x2, d1, d2, rfl, hn, rfl, rfl, y1, y2⟩
  · exact ⟨F, o, .refl, y⟩
  · have e1 : Ex F (upd F T (.tup [x1, x2])) := Evl.Ex.new (ex_none o.bs.fh hn)
    exact ⟨upd F T (.tup [x1, x2]), o.alloc hn, .new (ex_none o.bs.fh hn) hn, .tup upd_same (.cons (dp_mono e1 y1) (.cons (dp_mono e1 y2) .nil))⟩
theorem dps_get : ∀ {vs : List V} {ds : List D} {i : Nat} {x : V}, RpAll K F vs ds → vs[i]? = some x → ∃ d, ds[i]? = some d ∧ Rp K F x d
  | _, _, _, _, .nil, h => by simp at h
  | _, _, 0, _, .cons h t, e => by simp at e; subst e; exact ⟨_, rfl, h⟩
  | _, _, i + 1, x, .cons h t, e => by
    obtain ⟨d, h1, h2⟩ := dps_get (i := i) (x := x) t (by simpa using e)
    exact ⟨d, by simpa using h1, h2⟩
theorem dps_at : ∀ {vs : List V} {ds : List D} {i : Nat} {d : D}, RpAll K F vs ds → ds[i]? = some d → ∃ x, vs[i]? = some x ∧ Rp K F x d
  | _, _, _, _, .nil, h => by simp at h
  | _, _, 0, _, .cons h t, e => by simp at e; subst e; exact ⟨_, rfl, h⟩
  | _, _, i + 1, d, .cons h t, e => by
    obtain ⟨x, h1, h2⟩ := dps_at (i := i) (d := d) t (by simpa using e)
    exact ⟨x, by simpa using h1, h2⟩
theorem dps_len : ∀ {vs : List V} {ds : List D}, RpAll K F vs ds → vs.length = ds.length
  | _, _, .nil => rfl
  | _, _, .cons _ t => by simp [dps_len t]
theorem dps_append : ∀ {vs ws : List V} {ds es : List D}, RpAll K F vs ds → RpAll K F ws es → RpAll K F (vs ++ ws) (ds ++ es)
  | _, _, _, _, .nil, s => s
  | _, _, _, _, .cons h t, s => .cons h (dps_append t s)

theorem pi_weak {it : Expr} {t t' : TI} (h : PI X tg it t) (w : ∀ σ H R, t' σ H R → t σ H R) : PI X tg it t' := ⟨fun pins s σ H R I q => h.run pins s σ H R I (w σ H R q)⟩
theorem pi_len {it : Expr} {t : TI} (h : PI X tg it t) : PI X tg it (fun σ H R => t σ H fun J H1 => LenOk X.K H1 → R J H1) :=
  ⟨fun pins s σ H R I hw => thn (h.run pins s σ H _ I hw) fun v s1 h1 => thn h1 fun itv s2 ⟨it, fp, tn, J, H', e, I', T, t0, f, r⟩ => ⟨it, fp, tn, J, H', e, I', T, t0, f, r fun a xs hq =>
    hq.elim (fun hq => (I'.list hq).choose_spec.2.2) fun hq => (I'.tuple hq).choose_spec.2.2⟩⟩
theorem j_of {it : Expr} {m : WP (List D)} (h : PI X tg it (tI K c E Γ m)) : PI X tg it (tJ K c E Γ m) := pi_weak h fun σ H R ⟨F, o, r⟩ => ⟨F, o, m.mono _ _ _ _ (fun ds p J F' H' o' g hl ⟨G, Y, w, hy⟩ =>
  p J F' H' o' g hl ⟨G, Y, w, fun F2 H2 g2 e2 => hy F2 H2 g2.f e2⟩) (fun _ z => z) r⟩
def dList : D → Option (List D)
  | .list ds => some ds
  | _ => none
def dTuple : D → Option (List D)
  | .tuple ds => some ds
  | _ => none
theorem dList_some {d : D} {ds : List D} (h : dList d = some ds) : d = .list ds := by
  cases d <;> simp [dList] at h
  rw [h]
theorem dTuple_some {d : D} {ds : List D} (h : dTuple d = some ds) : d = .tuple ds := by
  cases d <;> simp [dTuple] at h
  rw [h]
theorem i_list (h : PE X e (tW K c E Γ m)) : PI X tg e (tI K c E Γ (m.bind fun d => .opt (dList d))) := pi_weak (pi_len (pi_list h)) fun σ H R ⟨F, o, r⟩ => by
  refine ⟨F, o, m.mono _ _ _ _ (fun d p v F1 H1 o1 g1 x1 => ?_) (fun _ z => z) r⟩
  obtain ⟨ds, hd, p⟩ := WP.opt_run p
  cases dList_some hd
  cases x1 with
  | lst h t =>
    rename_i a vs
    have hq : SqL X.K H1 a vs := .inl (.inl (o1.bs.fh _ _ h))
    refine ⟨a, rfl, ⟨_, hq⟩, fun hl => p _ F1 H1 o1 g1 (by rw [← dps_len t]; exact hl a vs (.inl hq)) ⟨_, _, by rw [← dps_len t]; exact walk_list, fun F2 H2 e2 e3 => ⟨Or.inl (Or.inl (exT e2 e3 _ _ h)), fun i x H3 _ y => ?_⟩⟩⟩
    obtain ⟨rfl, y⟩ := y
    obtain ⟨d, h1, h2⟩ := dps_get t y
    exact ⟨d, h1, .inl ⟨rfl, dp_mono e2 h2⟩⟩
theorem i_tup (h : PE X e (tW K c E Γ m)) : PI X tg e (tI K c E Γ (m.bind fun d => .opt (dTuple d))) := pi_weak (pi_len (pi_tup h)) fun σ H R ⟨F, o, r⟩ => by
  refine ⟨F, o, m.mono _ _ _ _ (fun d p v F1 H1 o1 g1 x1 => ?_) (fun _ z => z) r⟩
  obtain ⟨ds, hd, p⟩ := WP.opt_run p
  cases dTuple_some hd
  cases x1 with
  | tup h t =>
    rename_i a vs
    have hq : SqT X.K H1 a vs := .inl (.inl (o1.bs.fh _ _ h))
    refine ⟨a, rfl, ⟨_, hq⟩, fun hl => p _ F1 H1 o1 g1 (by rw [← dps_len t]; exact hl a vs (.inr hq)) ⟨_, _, by rw [← dps_len t]; exact walk_tup, fun F2 H2 e2 e3 => ⟨Or.inl (Or.inl (exT e2 e3 _ _ h)), fun i x H3 _ y => ?_⟩⟩⟩
    obtain ⟨rfl, y⟩ := y
    obtain ⟨d, h1, h2⟩ := dps_get t y
    exact ⟨d, h1, .inl ⟨rfl, dp_mono e2 h2⟩⟩
theorem SqL.gr {a : Addr} {vs : List V} (g : Gr c F H F' H') (n : ¬ c.ex a) {W : PySem.W.Frag} (h : H a = some (.lst vs)) : SqL W H' a vs := .inl (.inl (g.h a _ h n))
theorem j_list (h : PE X e (tR K c E Γ m)) : PI X tg e (tJ K c E Γ (m.bind fun d => .opt (dList d))) := pi_weak (pi_len (pi_list h)) fun σ H R ⟨F, o, r⟩ => by
  refine ⟨F, o, m.mono _ _ _ _ (fun d p v F1 H1 o1 g1 x1 => ?_) (fun _ z => z) r⟩
  obtain ⟨ds, hd, p⟩ := WP.opt_run p
  cases dList_some hd
  rcases x1 with x1 | ⟨a, vs, ds', rfl, e2, h, n, t⟩
  · cases x1 with
    | lst h t =>
      rename_i a vs
      have hq : SqL X.K H1 a vs := .inl (.inl (o1.bs.fh _ _ h))
      refine ⟨a, rfl, ⟨_, hq⟩, fun hl => p _ F1 H1 o1 g1 (by rw [← dps_len t]; exact hl a vs (.inl hq)) ⟨_, _, by rw [← dps_len t]; exact walk_list, fun F2 H2 e2 e3 => ⟨Or.inl (Or.inl (exT e2.f e3 _ _ h)), fun i x H3 _ y => ?_⟩⟩⟩
      obtain ⟨rfl, y⟩ := y
      obtain ⟨d, h1, h2⟩ := dps_get t y
      exact ⟨d, h1, .inl ⟨rfl, dp_mono e2.f h2⟩⟩
  · cases e2
    have hq : SqL X.K H1 a vs := .inl (.inl h)
    refine ⟨a, rfl, ⟨_, hq⟩, fun hl => p _ F1 H1 o1 g1 (by rw [← dps_len t]; exact hl a vs (.inl hq)) ⟨_, _, by rw [← dps_len t]; exact walk_list, fun F2 H2 e2 e3 => ⟨SqL.gr e2 n h, fun i x H3 _ y => ?_⟩⟩⟩
    obtain ⟨rfl, y⟩ := y
    obtain ⟨d, h1, h2⟩ := dps_get t y
    exact ⟨d, h1, .inl ⟨rfl, dp_mono e2.f h2⟩⟩
/-! range -/
def dRng (lo : Int) (n : Nat) : List D := (List.range n).map fun (i : Nat) => PyData.int (lo + i)
def LIM : Nat := 10000000
theorem lim_le {n : Nat} (h : n ≤ LIM) : n ≤ sizeLine := Nat.le_trans h (by rw [sizeLine_eq]; decide)
theorem lim_lt {n : Nat} (h : n < LIM) : n < sizeLine := Nat.lt_of_lt_of_le h (by rw [sizeLine_eq]; decide)
def dRange1 : List D → Option (List D)
  | [.int n] => if n ≤ 10000000 ∧ -10000000 ≤ n then some (dRng 0 n.toNat) else none
  | _ => none
def dRange2 : List D → Option (List D)
  | [.int i, .int j] => if (-10000000 ≤ i ∧ i ≤ 10000000) ∧ -10000000 ≤ j ∧ j ≤ 10000000 ∧ j - i ≤ 10000000 then some (dRng i (j - i).toNat) else none
  | _ => none
theorem rng_get {lo : Int} {n i : Nat} (h : i < n) : (dRng lo n)[i]? = some (.int (lo + i)) := by
  unfold dRng
  rw [List.getElem?_map, List.getElem?_range h]
  rfl
theorem rng_len {lo : Int} {n : Nat} : (dRng lo n).length = n := by simp [dRng]
theorem src_range {lo : Int} {n : Nat} : SrcF K F (Itr lo n) (dRng lo n) := by
  refine ⟨_, _, by rw [rng_len]; exact walk_range (lo := lo) (n := n), fun F2 H2 _ _ => ⟨trivial, fun i x H3 hi y => ?_⟩⟩
  obtain ⟨rfl, rfl⟩ := y
  exact ⟨_, rng_get (by rw [rng_len] at hi; exact hi), .inl ⟨rfl, .int _⟩⟩
theorem rd_ints1 {vs : List V} {n : Int} (h : RdAll K c F H vs [.int n]) : vs = [.int n] := by
  cases h with
  | cons h t => cases t; rw [h.int]
theorem rd_ints2 {vs : List V} {i j : Int} (h : RdAll K c F H vs [.int i, .int j]) : vs = [.int i, .int j] := by
  cases h with
  | cons h t => cases t with
    | cons h2 t => cases t; rw [h.int, h2.int]
variable {es : List Expr} {ms : WP (List D)}
theorem a_nil : PA X [] (tA K c E Γ (.ret [])) := pa_weak pa_nil fun σ H Q ⟨F, o, r⟩ => r [] F H o .refl .nil
theorem a_cons (h : PE X e (tW K c E Γ m)) (t : PA X es (tA K c E Γ ms)) (hs : starEach (e :: es) X.env = (false, eval e X.env) :: starEach es X.env := by rfl) : PA X (e :: es) (tA K c E Γ (m.bind fun d => ms.bind fun ds => .ret (d :: ds))) :=
  pa_weak (pa_cons h t hs) fun σ H Q ⟨F, o, r⟩ => by
    refine ⟨F, o, m.mono _ _ _ _ (fun d p v F1 H1 o1 g1 x1 => ?_) (fun _ z => z) r⟩
    exact ⟨F1, o1, ms.mono _ _ _ _ (fun ds p vs F2 H2 o2 g2 x2 => p _ F2 H2 o2 (g1.trans g2) (.cons (dp_mono g2.f x1) x2)) (fun _ z => z) p⟩
theorem r_nil : PA X [] (tRA K c E Γ (.ret [])) := pa_weak pa_nil fun σ H Q ⟨F, o, r⟩ => r [] F H o .refl .nil
theorem r_cons (h : PE X e (tR K c E Γ m)) (t : PA X es (tRA K c E Γ ms)) (hs : starEach (e :: es) X.env = (false, eval e X.env) :: starEach es X.env := by rfl) : PA X (e :: es) (tRA K c E Γ (m.bind fun d => ms.bind fun ds => .ret (d :: ds))) :=
  pa_weak (pa_cons h t hs) fun σ H Q ⟨F, o, r⟩ => by
    refine ⟨F, o, m.mono _ _ _ _ (fun d p v F1 H1 o1 g1 x1 => ?_) (fun _ z => z) r⟩
    exact ⟨F1, o1, ms.mono _ _ _ _ (fun ds p vs F2 H2 o2 g2 x2 => p _ F2 H2 o2 (g1.trans g2) (.cons (x1.mono g2) x2)) (fun _ z => z) p⟩
theorem i_range1 {p : Pos} (hg : Gl X "range") (hm : X.mg "range" = none) (ha : PA X [a] (tRA K c E Γ ms)) (hs : starEach [a] X.env = [(false, eval a X.env)] := by rfl) : PI X tg (.Call (.Name "range" p) [a] [] pos) (tI K c E Γ (ms.bind fun d => .opt (dRange1 d))) :=
  pi_weak (pi_range1 hg hm ha hs) fun σ H R ⟨F, o, r⟩ => by
    refine ⟨F, o, ms.mono _ _ _ _ (fun ds p vs F1 H1 o1 g1 x1 => ?_) (fun _ z => z) r⟩
    obtain ⟨es, hd, p⟩ := WP.opt_run p
    unfold dRange1 at hd
    split at hd
    · rename_i n
      split at hd
      · rename_i hn
        cases hd
        exact ⟨n, rd_ints1 x1, by omega, by omega, p _ F1 H1 o1 g1 (by rw [rng_len]; exact lim_le (by unfold LIM; omega)) src_range⟩
      · cases hd
    · cases hd
theorem i_range2 {p : Pos} (hg : Gl X "range") (hm : X.mg "range" = none) (ha : PA X [a, b] (tRA K c E Γ ms)) (hs : starEach [a, b] X.env = [(false, eval a X.env), (false, eval b X.env)] := by rfl) (hs2 : starEach [b] X.env = [(false, eval b X.env)] := by rfl) : PI X tg (.Call (.Name "range" p) [a, b] [] pos) (tI K c E Γ (ms.bind fun d => .opt (dRange2 d))) :=
  pi_weak (pi_range2 hg hm ha hs hs2) fun σ H R ⟨F, o, r⟩ => by
    refine ⟨F, o, ms.mono _ _ _ _ (fun ds p vs F1 H1 o1 g1 x1 => ?_) (fun _ z => z) r⟩
    obtain ⟨es, hd, p⟩ := WP.opt_run p
    unfold dRange2 at hd
    split at hd
    · rename_i i j
      split at hd
      · rename_i hn
        cases hd
        exact ⟨i, j, rd_ints2 x1, by omega, p _ F1 H1 o1 g1 (by rw [rng_len]; exact lim_le (by unfold LIM; omega)) src_range⟩
      · cases hd
    · cases hd
/-! zip, enumerate -/
def dZip : List D → Option (List D)
  | [.list xs, .list ys] => some ((xs.zip ys).map fun p => .tuple [p.1, p.2])
  | _ => none
def dEnum : List D → Option (List D)
  | [.list xs] => some (xs.mapIdx fun i d => .tuple [.int (i : Nat), d])
  | _ => none
theorem i_zip {e2 : Expr} {p tpos : Pos} {elts : List Expr} {kk : Nat} (hg : Gl X "zip") (hm : X.mg "zip" = none) (ha : PA X [e, e2] (tA K c E Γ ms))
    (hs : starEach [e, e2] X.env = (false, eval e X.env) :: starEach [e2] X.env := by rfl) (hpl : (backTo pos (starEach [e2] X.env)).any (·.1) = false := by rfl) :
    PI X (.Tuple elts kk tpos) (.Call (.Name "zip" p) [e, e2] [] pos) (tI K c E Γ (ms.bind fun d => .opt (dZip d))) :=
  pi_weak (pi_len (pi_zip hg hm ha hs hpl)) fun σ H R ⟨F, o, r⟩ => by
    refine ⟨F, o, ms.mono _ _ _ _ (fun ds p vs F1 H1 o1 g1 x1 => ?_) (fun _ z => z) r⟩
    obtain ⟨es, hd, p⟩ := WP.opt_run p
    unfold dZip at hd
    split at hd
    · rename_i xs ys
      cases hd
      cases x1 with
      | cons h1 t1 => cases t1 with
        | cons h2 t2 =>
          cases t2
          cases h1 with
          | lst q1 t1 =>
            cases h2 with
            | lst q2 t2 =>
              rename_i a us b ws
              have hq1 : SqL X.K H1 a us := .inl (.inl (o1.bs.fh _ _ q1))
              have hq2 : SqL X.K H1 b ws := .inl (.inl (o1.bs.fh _ _ q2))
              refine ⟨a, b, us, ws, rfl, hq1, hq2, fun hl => p _ F1 H1 o1 g1 ?_ ⟨_, _, walk_zip (xs := us) (ys := ws) ?_, fun F2 H2 e2 e3 => ⟨⟨Or.inl (Or.inl (exT e2 e3 _ _ q1)), Or.inl (Or.inl (exT e2 e3 _ _ q2))⟩, fun i x H3 _ y => ?_⟩⟩⟩
              · have := hl a us (.inl hq1)
                simp only [List.length_map, List.length_zip]
                have := dps_len t1
                omega
              · simp only [List.length_map, List.length_zip, dps_len t1, dps_len t2]
              · obtain ⟨T, x1, x2, rfl, hT, rfl, y1, y2⟩ := y
                obtain ⟨d1, h1, h2⟩ := dps_get t1 y1
                obtain ⟨d2, h3, h4⟩ := dps_get t2 y2
                refine ⟨.tuple [d1, d2], ?_, .inr ⟨T, x1, x2, d1, d2, rfl, hT, rfl, rfl, dp_mono e2 h2, dp_mono e2 h4⟩⟩
                rw [List.getElem?_map, (List.getElem?_zip_eq_some (z := (d1, d2))).mpr ⟨h1, h3⟩]
                rfl
    · cases hd
theorem i_enum {p tpos : Pos} {elts : List Expr} {kk : Nat} (hg : Gl X "enumerate") (hm : X.mg "enumerate" = none) (ha : PA X [e] (tA K c E Γ ms)) (hs : starEach [e] X.env = [(false, eval e X.env)] := by rfl) :
    PI X (.Tuple elts kk tpos) (.Call (.Name "enumerate" p) [e] [] pos) (tI K c E Γ (ms.bind fun d => .opt (dEnum d))) :=
  pi_weak (pi_len (pi_enum hg hm ha hs)) fun σ H R ⟨F, o, r⟩ => by
    refine ⟨F, o, ms.mono _ _ _ _ (fun ds p vs F1 H1 o1 g1 x1 => ?_) (fun _ z => z) r⟩
    obtain ⟨es, hd, p⟩ := WP.opt_run p
    unfold dEnum at hd
    split at hd
    · rename_i xs
      cases hd
      cases x1 with
      | cons h1 t1 =>
        cases t1
        cases h1 with
        | lst q1 t1 =>
          rename_i a us
          have hq1 : SqL X.K H1 a us := .inl (.inl (o1.bs.fh _ _ q1))
          refine ⟨a, us, rfl, hq1, fun hl => p _ F1 H1 o1 g1 ?_ ⟨_, _, by rw [List.length_mapIdx, ← dps_len t1]; exact walk_enum (xs := us), fun F2 H2 e2 e3 => ⟨Or.inl (Or.inl (exT e2 e3 _ _ q1)), fun i x H3 _ y => ?_⟩⟩⟩
          · have := hl a us (.inl hq1)
            rw [List.length_mapIdx, ← dps_len t1]
            exact this
          · obtain ⟨T, x1, x2, rfl, hT, rfl, y1, y2⟩ := y
            cases y1
            obtain ⟨d2, h3, h4⟩ := dps_get t1 y2
            refine ⟨.tuple [.int (i : Nat), d2], ?_, .inr ⟨T, _, x2, _, d2, rfl, hT, rfl, rfl, .int _, dp_mono e2 h4⟩⟩
            rw [List.getElem?_mapIdx, h3]
            rfl
    · cases hd
end
end GA
namespace GA
open PySem PySem.Spec PyProof.Rows L2

/-! statements -/
inductive Stp (α : Type) where
  | nx (a : α) | rt (d : D)
/-- no return -/
def tX (K : Nat → Addr) (c : C) (E : XK) (Γ : List Sl) {α : Type} (m : WP α) (G : α → List Sl) : TS := fun D σ H => ∃ F, Ok K c F H σ Γ ∧ m.run (fun a => ∀ σ' F' H', Ok K c F' H' σ' (G a) → Ex F F' → D.nx σ' H') (eK K E c)
/-- it always returns -/
def tE (K : Nat → Addr) (c : C) (E : XK) (Γ : List Sl) (m : WP D) : TS := fun D σ H => ∃ F, Ok K c F H σ Γ ∧ m.run (fun d => ∀ v F' H', Bs c F' H' → Ex F F' → Rp K F' v d → D.rt v H') (eK K E c)
/-- both -/
def tS (K : Nat → Addr) (c : C) (E : XK) (Γ : List Sl) {α : Type} (m : WP (Stp α)) (G : α → List Sl) : TS := fun D σ H => ∃ F, Ok K c F H σ Γ ∧ m.run (fun o => match o with
  | .nx a => ∀ σ' F' H', Ok K c F' H' σ' (G a) → Ex F F' → D.nx σ' H'
  | .rt d => ∀ v F' H', Bs c F' H' → Ex F F' → Rp K F' v d → D.rt v H') (eK K E c)
def WP.seq {α β : Type} (m : WP (Stp α)) (f : α → WP (Stp β)) : WP (Stp β) := m.bind fun o => match o with | .nx a => f a | .rt d => .ret (.rt d)
def WP.seqE {α : Type} (m : WP (Stp α)) (f : α → WP D) : WP D := m.bind fun o => match o with | .nx a => f a | .rt d => .ret d
def R.seq {α β : Type} (m : R (Stp α)) (f : α → R (Stp β)) : R (Stp β) := m.bind fun o => match o with | .nx a => f a | .rt d => .ok (.rt d)
def R.seqE {α : Type} (m : R (Stp α)) (f : α → R D) : R D := m.bind fun o => match o with | .nx a => f a | .rt d => .ok d
section
variable {X : Cx} {K : Nat → Addr} {c : C} {E : XK} {Γ Γ' : List Sl} {e a b tg : Expr} {m ma mb : WP D} {pos : Pos} {F F' H H' : Hp} {σ : L2.St} {st : Stmt} {rest : List Stmt} {α β : Type}

/-! the slots change -/
theorem Ok.set {i : Nat} {v : V} {d : D} (o : Ok K c F H σ Γ) (h : Rp K F v d) : Ok K c F H (σ.set i (some v)) (Γ.set i (.imm d)) := by
  obtain ⟨π, x⟩ := o
  refine ⟨fun j => if j = i then [] else π j, x.bs, by simp [x.len], fun j s hj => ?_, fun j a ha => ?_, fun j k a h1 h2 => ?_⟩
  · by_cases q : i = j
    · subst q
      have hi : i < Γ.length := by
        have := (List.getElem?_eq_some_iff.mp hj).1
        simpa using this
      rw [List.getElem?_set_self hi] at hj
      cases hj
      exact ⟨_, List.getElem?_set_self (by rw [x.len]; exact hi), v, rfl, h⟩
    · rw [List.getElem?_set_ne q] at hj ⊢
      obtain ⟨ov, h1, h2⟩ := x.sl j s hj
      refine ⟨ov, h1, ?_⟩
      rw [if_neg fun z => q z.symm]
      exact h2
  · by_cases q : j = i
    · rw [if_pos q] at ha; cases ha
    · rw [if_neg q] at ha; exact x.fr j a ha
  · by_cases q : j = i
    · rw [if_pos q] at h1; cases h1
    · by_cases q2 : k = i
      · rw [if_pos q2] at h2; cases h2
      · rw [if_neg q] at h1; rw [if_neg q2] at h2; exact x.dj j k a h1 h2
/-- a resource takes a slot: cells that are nobody's -/
theorem Ok.setR {i : Nat} {v : V} {r : Res} {fp : List Addr} (o : Ok K c F H σ Γ) {H' : Hp} (h : r.ok F H' v fp) (hn : ∀ a, a ∈ fp → H a = none ∧ H' a ≠ none) (he : Ex H H') : Ok K c F H' (σ.set i (some v)) (Γ.set i (.res r)) := by
  obtain ⟨π, x⟩ := o.grow he (exR F) (exT o.bs.fh he) fun a o h => .inl h
  obtain ⟨π0, x0⟩ := o
  have hx : ∀ a, a ∈ fp → c.H0 a = none := fun a ha => by
    cases q : c.H0 a with
    | none => rfl
    | some u =>
      by_cases n : c.ex a
      · exact absurd (hn a ha).1 (x0.bs.xh a n)
      · have := x0.bs.h0 a u q n; rw [(hn a ha).1] at this; cases this
  have y : OkP K c F H' σ Γ π0 := x0.step (fun a o h _ => he a o h) x.bs.xh x.bs.rv (exR F) x.bs.fh fun a o h => .inl h
  have nin : ∀ j a, a ∈ fp → a ∈ π0 j → False := fun j a h1 h2 => (x0.fr j a h2).2.1 (hn a h1).1
  refine ⟨fun j => if j = i then fp else π0 j, y.bs, by simp [y.len], fun j s hj => ?_, fun j a ha => ?_, fun j k a h1 h2 => ?_⟩
  · by_cases q : i = j
    · subst q
      have hi : i < Γ.length := by
        have := (List.getElem?_eq_some_iff.mp hj).1
        simpa using this
      rw [List.getElem?_set_self hi] at hj
      cases hj
      refine ⟨_, List.getElem?_set_self (by rw [y.len]; exact hi), v, rfl, ?_⟩
      rw [if_pos rfl]
      exact h
    · rw [List.getElem?_set_ne q] at hj ⊢
      obtain ⟨ov, h1, h2⟩ := y.sl j s hj
      refine ⟨ov, h1, ?_⟩
      rw [if_neg fun z => q z.symm]
      exact h2
  · by_cases q : j = i
    · rw [if_pos q] at ha
      exact ⟨ex_none x0.bs.fh (hn a ha).1, (hn a ha).2, hx a ha⟩
    · rw [if_neg q] at ha; exact y.fr j a ha
  · by_cases q : j = i
    · rw [if_pos q] at h1
      by_cases q2 : k = i
      · rw [q, q2]
      · rw [if_neg q2] at h2; exact (nin k a h1 h2).elim
    · rw [if_neg q] at h1
      by_cases q2 : k = i
      · rw [if_pos q2] at h2; exact (nin j a h2 h1).elim
      · rw [if_neg q2] at h2; exact y.dj j k a h1 h2
/-- forgetting -/
inductive Le : List Sl → List Sl → Prop
  | nil : Le [] []
  | keep {s : Sl} {Γ Γ' : List Sl} : Le Γ Γ' → Le (s :: Γ) (s :: Γ')
  | drop {s : Sl} {Γ Γ' : List Sl} : Le Γ Γ' → Le (s :: Γ) (.non :: Γ')
theorem Le.refl : ∀ Γ : List Sl, Le Γ Γ
  | [] => .nil
  | _ :: Γ => .keep (Le.refl Γ)
theorem Le.len : ∀ {Γ Γ' : List Sl}, Le Γ Γ' → Γ.length = Γ'.length
  | _, _, .nil => rfl
  | _, _, .keep h => by simp [h.len]
  | _, _, .drop h => by simp [h.len]
theorem Le.get : ∀ {Γ Γ' : List Sl} {i : Nat} {s : Sl}, Le Γ Γ' → Γ'[i]? = some s → ∃ s', Γ[i]? = some s' ∧ (s = .non ∨ s = s')
  | _, _, _, _, .nil, h => by simp at h
  | _, _, 0, _, .keep _, h => by simp at h; subst h; exact ⟨_, rfl, .inr rfl⟩
  | _, _, 0, _, .drop _, h => by simp at h; subst h; exact ⟨_, rfl, .inl rfl⟩
  | _, _, i + 1, s, .keep t, h => by simpa using Le.get (i := i) (s := s) t (by simpa using h)
  | _, _, i + 1, s, .drop t, h => by simpa using Le.get (i := i) (s := s) t (by simpa using h)
theorem Ok.le (o : Ok K c F H σ Γ) (l : Le Γ Γ') : Ok K c F H σ Γ' := by
  obtain ⟨π, x⟩ := o
  refine ⟨π, x.bs, x.len.trans l.len, fun i s h => ?_, x.fr, x.dj⟩
  obtain ⟨s', h1, h2⟩ := l.get h
  obtain ⟨ov, h3, h4⟩ := x.sl i s' h1
  refine ⟨ov, h3, ?_⟩
  rcases h2 with rfl | rfl
  · trivial
  · exact h4
/-- an own list is frozen for good -/
theorem Ok.freeze {i : Nat} {ds : List D} (o : Ok K c F H σ Γ) (h : Γ[i]? = some (own K ds)) : ∃ F', Ok K c F' H σ (Γ.set i (.imm (.list ds))) ∧ Ex F F' := by
  obtain ⟨π, x⟩ := o
  obtain ⟨ov, h1, v, rfl, a, vs, rfl, h2, h3, h4⟩ := x.sl i _ h
  have ha : a ∈ π i := by rw [h2]; exact List.mem_singleton.mpr rfl
  obtain ⟨f1, f2, f3⟩ := x.fr i a ha
  have ef : Ex F (upd F a (.lst vs)) := Evl.Ex.new f1
  have efh : Ex (upd F a (.lst vs)) H := fun b u q => by
    by_cases e : b = a
    · subst e; rw [upd_same] at q; cases q; exact h3
    · rw [upd_ne e] at q; exact x.bs.fh b u q
  refine ⟨upd F a (.lst vs), ⟨fun j => if j = i then [] else π j, ⟨efh, exT x.bs.f0 ef, x.bs.h0, fun b u q => ?_, fun b hb => ?_, x.bs.hx, x.bs.xh, x.bs.rv⟩, by simp [x.len], fun j s hj => ?_, fun j b hb => ?_, fun j k b k1 k2 => ?_⟩, ef⟩
  · by_cases e : b = a
    · subst e; exact .inr f3
    · rw [upd_ne e] at q; exact x.bs.nw b u q
  · have e : b ≠ a := fun e => by subst e; exact x.bs.hx b hb f3
    rw [upd_ne e]; exact x.bs.fx b hb
  · by_cases q : i = j
    · subst q
      have hi : i < Γ.length := (List.getElem?_eq_some_iff.mp h).1
      rw [List.getElem?_set_self hi] at hj
      cases hj
      exact ⟨_, h1, _, rfl, .lst upd_same (dps_mono ef h4)⟩
    · rw [List.getElem?_set_ne q] at hj
      obtain ⟨ov, k1, k2⟩ := x.sl j s hj
      refine ⟨ov, k1, ?_⟩
      rw [if_neg fun z => q z.symm]
      exact sl_mono ef (fun _ _ => rfl) k2
  · by_cases q : j = i
    · rw [if_pos q] at hb; cases hb
    · rw [if_neg q] at hb
      obtain ⟨g1, g2, g3⟩ := x.fr j b hb
      refine ⟨?_, g2, g3⟩
      have e : b ≠ a := fun e => by subst e; exact q (x.dj j i b hb ha)
      rw [upd_ne e]; exact g1
  · by_cases q : j = i
    · rw [if_pos q] at k1; cases k1
    · by_cases q2 : k = i
      · rw [if_pos q2] at k2; cases k2
      · rw [if_neg q] at k1; rw [if_neg q2] at k2; exact x.dj j k b k1 k2
/-- an own list is written -/
theorem Ok.write {i : Nat} {ds ds' : List D} {v : V} (o : Ok K c F H σ Γ) (h : Γ[i]? = some (own K ds)) (hv : σ[i]? = some (some v)) : ∃ a vs, v = .ref a ∧ H a = some (.lst vs) ∧ RpAll K F vs ds ∧ ∀ vs' ds', RpAll K F vs' ds' → Ok K c F (upd H a (.lst vs')) σ (Γ.set i (own K ds')) := by
  obtain ⟨π, x⟩ := o
  obtain ⟨ov, h1, v', rfl, a, vs, rfl, h2, h3, h4⟩ := x.sl i _ h
  rw [hv] at h1
  cases h1
  have ha : a ∈ π i := by rw [h2]; exact List.mem_singleton.mpr rfl
  obtain ⟨f1, f2, f3⟩ := x.fr i a ha
  refine ⟨a, vs, rfl, h3, h4, fun vs' ds' hd => ⟨π, ⟨fun b u q => ?_, x.bs.f0, fun b u q n => ?_, x.bs.nw, x.bs.fx, x.bs.hx, fun b hb => ?_, ?_⟩, by simp [x.len], fun j s hj => ?_, fun j b hb => ?_, x.dj⟩⟩
  · have e : b ≠ a := fun e => by subst e; rw [f1] at q; cases q
    rw [upd_ne e]; exact x.bs.fh b u q
  · have e : b ≠ a := fun e => by subst e; rw [f3] at q; cases q
    rw [upd_ne e]; exact x.bs.h0 b u q n
  · have e : b ≠ a := fun e => by subst e; exact x.bs.hx b hb f3
    rw [upd_ne e]; exact x.bs.xh b hb
  · refine c.rst H _ (fun b hb => ?_) x.bs.rv
    have e : b ≠ a := fun e => by subst e; exact x.bs.hx b hb f3
    rw [upd_ne e]
  · by_cases q : i = j
    · subst q
      have hi : i < Γ.length := (List.getElem?_eq_some_iff.mp h).1
      rw [List.getElem?_set_self hi] at hj
      cases hj
      exact ⟨_, hv, _, rfl, a, vs', rfl, h2, upd_same, hd⟩
    · rw [List.getElem?_set_ne q] at hj
      obtain ⟨ov, k1, k2⟩ := x.sl j s hj
      refine ⟨ov, k1, sl_mono (exR F) (fun b hb => ?_) k2⟩
      have e : b ≠ a := fun e => by subst e; exact q (x.dj i j b ha hb)
      rw [upd_ne e]
  · obtain ⟨g1, g2, g3⟩ := x.fr j b hb
    refine ⟨g1, ?_, g3⟩
    by_cases e : b = a
    · subst e; rw [upd_same]; exact fun z => by cases z
    · rw [upd_ne e]; exact g2
end
end GA
namespace GA
open PySem PySem.Spec PyProof.Rows L2

section
variable {X : Cx} {K : Nat → Addr} {c : C} {E : XK} {Γ Γ' : List Sl} {e a b tg t : Expr} {m ma mb : WP D} {q : WP Bool} {pos : Pos} {F F' H H' : Hp} {σ : L2.St} {st : Stmt} {A B rest : List Stmt} {α β : Type}
/-! blocks -/
theorem pss_ex {α : Type} {u : α → TS} (h : ∀ a, PSs X rest (u a)) : PSs X rest (fun D σ H => ∃ a, u a D σ H) := ⟨fun pins s σ H D I ⟨a, q⟩ => (h a).run pins s σ H D I q⟩
theorem s_X {m : WP α} {G : α → List Sl} {f : α → WP D} (h1 : PS X st (tX K c E Γ m G)) (h2 : ∀ a, PSs X rest (tE K c E (G a) (f a))) : PSs X (st :: rest) (tE K c E Γ (m.bind f)) :=
  pss_weak (pss_cons h1 (pss_ex h2)) fun D σ H ⟨F, o, r⟩ => ⟨F, o, m.mono _ _ _ _ (fun a p σ' F' H' o' ef => ⟨a, F', o', (f a).mono _ _ _ _ (fun d p v F2 H2 b2 e2 => p v F2 H2 b2 (exT ef e2)) (fun _ z => z) p⟩) (fun _ z => z) r⟩
theorem s_XX {m : WP α} {G : α → List Sl} {f : α → WP β} {G' : β → List Sl} (h1 : PS X st (tX K c E Γ m G)) (h2 : ∀ a, PSs X rest (tX K c E (G a) (f a) G')) : PSs X (st :: rest) (tX K c E Γ (m.bind f) G') :=
  pss_weak (pss_cons h1 (pss_ex h2)) fun D σ H ⟨F, o, r⟩ => ⟨F, o, m.mono _ _ _ _ (fun a p σ' F' H' o' ef => ⟨a, F', o', (f a).mono _ _ _ _ (fun d p v F2 H2 b2 e2 => p v F2 H2 b2 (exT ef e2)) (fun _ z => z) p⟩) (fun _ z => z) r⟩
theorem s_XS {m : WP α} {G : α → List Sl} {f : α → WP (Stp β)} {G' : β → List Sl} (h1 : PS X st (tX K c E Γ m G)) (h2 : ∀ a, PSs X rest (tS K c E (G a) (f a) G')) : PSs X (st :: rest) (tS K c E Γ (m.bind f) G') :=
  pss_weak (pss_cons h1 (pss_ex h2)) fun D σ H ⟨F, o, r⟩ => ⟨F, o, m.mono _ _ _ _ (fun a p σ' F' H' o' ef => ⟨a, F', o', (f a).mono _ _ _ _ (fun d p => by
    cases d with
    | nx b => exact fun v F2 H2 b2 e2 => p v F2 H2 b2 (exT ef e2)
    | rt b => exact fun v F2 H2 b2 e2 => p v F2 H2 b2 (exT ef e2)) (fun _ z => z) p⟩) (fun _ z => z) r⟩
theorem s_S {m : WP (Stp α)} {G : α → List Sl} {f : α → WP D} (h1 : PS X st (tS K c E Γ m G)) (h2 : ∀ a, PSs X rest (tE K c E (G a) (f a))) : PSs X (st :: rest) (tE K c E Γ (m.seqE f)) :=
  pss_weak (pss_cons h1 (pss_ex h2)) fun D σ H ⟨F, o, r⟩ => ⟨F, o, m.mono _ _ _ _ (fun a p => by
    cases a with
    | nx a => exact fun σ' F' H' o' ef => ⟨a, F', o', (f a).mono _ _ _ _ (fun d p v F2 H2 b2 e2 => p v F2 H2 b2 (exT ef e2)) (fun _ z => z) p⟩
    | rt d => exact fun v F' H' b2 e2 x => p v F' H' b2 e2 x) (fun _ z => z) r⟩
theorem s_SS {m : WP (Stp α)} {G : α → List Sl} {f : α → WP (Stp β)} {G' : β → List Sl} (h1 : PS X st (tS K c E Γ m G)) (h2 : ∀ a, PSs X rest (tS K c E (G a) (f a) G')) : PSs X (st :: rest) (tS K c E Γ (m.seq f) G') :=
  pss_weak (pss_cons h1 (pss_ex h2)) fun D σ H ⟨F, o, r⟩ => ⟨F, o, m.mono _ _ _ _ (fun a p => by
    cases a with
    | nx a => exact fun σ' F' H' o' ef => ⟨a, F', o', (f a).mono _ _ _ _ (fun d p => by
        cases d with
        | nx b => exact fun v F2 H2 b2 e2 => p v F2 H2 b2 (exT ef e2)
        | rt b => exact fun v F2 H2 b2 e2 => p v F2 H2 b2 (exT ef e2)) (fun _ z => z) p⟩
    | rt d => exact fun v F' H' b2 e2 x => p v F' H' b2 e2 x) (fun _ z => z) r⟩
theorem s_nil {a : α} {G : α → List Sl} (l : Le Γ (G a)) : PSs X [] (tX K c E Γ (.ret a) G) := pss_weak pss_nil fun D σ H ⟨F, o, r⟩ => r σ F H (o.le l) (exR F)
theorem s_nilS {a : α} {G : α → List Sl} (l : Le Γ (G a)) : PSs X [] (tS K c E Γ (.ret (.nx a)) G) := pss_weak pss_nil fun D σ H ⟨F, o, r⟩ => r σ F H (o.le l) (exR F)
theorem pss_ret {sts : List Stmt} {te : TE} (he : PE X e te) : PSs X (.Return (some e) pos :: sts) (tRet te) := pss_weak (pss_cons (ps_ret he) (pss_never (sts := sts))) fun D σ H h => h
theorem s_ret (h : PE X e (tW K c E Γ m)) : PSs X (.Return (some e) pos :: rest) (tE K c E Γ m) := pss_weak (pss_ret h) fun D σ H ⟨F, o, r⟩ => ⟨F, o, m.mono _ _ _ _ (fun d p v F' H' o' g x => p v F' H' o'.bs g.f x) (fun _ z => z) r⟩
theorem s_retS {G : α → List Sl} (h : PE X e (tW K c E Γ m)) : PSs X (.Return (some e) pos :: rest) (tS K c E Γ (m.bind fun d => .ret (.rt d)) G) := pss_weak (pss_ret h) fun D σ H ⟨F, o, r⟩ => ⟨F, o, m.mono _ _ _ _ (fun d p v F' H' o' g x => p v F' H' o'.bs g.f x) (fun _ z => z) r⟩
/-- if t: A (it returns), then the rest -/
theorem s_ifE {f : WP D} (ht : PT X t (tT K c E Γ q)) (ha : PSs X A (tE K c E Γ ma)) (hr : PSs X rest (tE K c E Γ f)) : PSs X (.If t A [] pos :: rest) (tE K c E Γ (q.bind fun b => if b = true then ma else f)) :=
  pss_weak (pss_cons (ps_if ht ha pss_nil) hr) fun D σ H ⟨F, o, r⟩ => ⟨F, o, q.mono _ _ _ _ (fun b p F1 H1 o1 g1 => by
    cases b with
    | true => exact ⟨F1, o1, ma.mono _ _ _ _ (fun d p v F2 H2 b2 e2 => p v F2 H2 b2 (exT g1.f e2)) (fun _ z => z) p⟩
    | false => exact ⟨F1, o1, f.mono _ _ _ _ (fun d p v F2 H2 b2 e2 => p v F2 H2 b2 (exT g1.f e2)) (fun _ z => z) p⟩) (fun _ z => z) r⟩
theorem s_ifS {f : WP (Stp β)} {G' : β → List Sl} (ht : PT X t (tT K c E Γ q)) (ha : PSs X A (tE K c E Γ ma)) (hr : PSs X rest (tS K c E Γ f G')) : PSs X (.If t A [] pos :: rest) (tS K c E Γ (q.bind fun b => if b = true then ma.bind fun d => .ret (.rt d) else f) G') :=
  pss_weak (pss_cons (ps_if ht ha pss_nil) hr) fun D σ H ⟨F, o, r⟩ => ⟨F, o, q.mono _ _ _ _ (fun b p F1 H1 o1 g1 => by
    cases b with
    | true => exact ⟨F1, o1, ma.mono _ _ _ _ (fun d p v F2 H2 b2 e2 => p v F2 H2 b2 (exT g1.f e2)) (fun _ z => z) p⟩
    | false => exact ⟨F1, o1, f.mono _ _ _ _ (fun d p => by
        cases d with
        | nx b => exact fun v F2 H2 b2 e2 => p v F2 H2 b2 (exT g1.f e2)
        | rt b => exact fun v F2 H2 b2 e2 => p v F2 H2 b2 (exT g1.f e2)) (fun _ z => z) p⟩) (fun _ z => z) r⟩
/-- if t: A else: B, both return -/
theorem s_if2 (ht : PT X t (tT K c E Γ q)) (ha : PSs X A (tE K c E Γ ma)) (hb : PSs X B (tE K c E Γ mb)) : PSs X (.If t A B pos :: rest) (tE K c E Γ (q.bind fun b => if b = true then ma else mb)) :=
  pss_weak (pss_cons (ps_if ht ha hb) (pss_never (sts := rest))) fun D σ H ⟨F, o, r⟩ => ⟨F, o, q.mono _ _ _ _ (fun b p F1 H1 o1 g1 => by
    cases b with
    | true => exact ⟨F1, o1, ma.mono _ _ _ _ (fun d p v F2 H2 b2 e2 => p v F2 H2 b2 (exT g1.f e2)) (fun _ z => z) p⟩
    | false => exact ⟨F1, o1, mb.mono _ _ _ _ (fun d p v F2 H2 b2 e2 => p v F2 H2 b2 (exT g1.f e2)) (fun _ z => z) p⟩) (fun _ z => z) r⟩
/-- both go on -/
theorem s_ifX {xa xb : WP α} {G : α → List Sl} (ht : PT X t (tT K c E Γ q)) (ha : PSs X A (tX K c E Γ xa G)) (hb : PSs X B (tX K c E Γ xb G)) : PS X (.If t A B pos) (tX K c E Γ (q.bind fun b => if b = true then xa else xb) G) :=
  ps_weak (ps_if ht ha hb) fun D σ H ⟨F, o, r⟩ => ⟨F, o, q.mono _ _ _ _ (fun b p F1 H1 o1 g1 => by
    cases b with
    | true => exact ⟨F1, o1, xa.mono _ _ _ _ (fun d p v F2 H2 b2 e2 => p v F2 H2 b2 (exT g1.f e2)) (fun _ z => z) p⟩
    | false => exact ⟨F1, o1, xb.mono _ _ _ _ (fun d p v F2 H2 b2 e2 => p v F2 H2 b2 (exT g1.f e2)) (fun _ z => z) p⟩) (fun _ z => z) r⟩
theorem s_ifG {xa xb : WP (Stp α)} {G : α → List Sl} (ht : PT X t (tT K c E Γ q)) (ha : PSs X A (tS K c E Γ xa G)) (hb : PSs X B (tS K c E Γ xb G)) : PS X (.If t A B pos) (tS K c E Γ (q.bind fun b => if b = true then xa else xb) G) :=
  ps_weak (ps_if ht ha hb) fun D σ H ⟨F, o, r⟩ => ⟨F, o, q.mono _ _ _ _ (fun b p F1 H1 o1 g1 => by
    cases b with
    | true => exact ⟨F1, o1, xa.mono _ _ _ _ (fun d p => by
        cases d with
        | nx b => exact fun v F2 H2 b2 e2 => p v F2 H2 b2 (exT g1.f e2)
        | rt b => exact fun v F2 H2 b2 e2 => p v F2 H2 b2 (exT g1.f e2)) (fun _ z => z) p⟩
    | false => exact ⟨F1, o1, xb.mono _ _ _ _ (fun d p => by
        cases d with
        | nx b => exact fun v F2 H2 b2 e2 => p v F2 H2 b2 (exT g1.f e2)
        | rt b => exact fun v F2 H2 b2 e2 => p v F2 H2 b2 (exT g1.f e2)) (fun _ z => z) p⟩) (fun _ z => z) r⟩
/-- a block that returns, where one may go on -/
theorem s_E {G : α → List Sl} (h : PSs X A (tE K c E Γ m)) : PSs X A (tS K c E Γ (m.bind fun d => .ret (.rt d)) G) := pss_weak h fun D σ H ⟨F, o, r⟩ => ⟨F, o, r⟩
/-- an own list is frozen ahead of a block -/
theorem s_frzE (i : Nat) {ds : List D} (hi : Γ[i]? = some (own K ds)) (h : PSs X A (tE K c E (Γ.set i (.imm (.list ds))) m)) : PSs X A (tE K c E Γ m) := pss_weak h fun D σ H ⟨F, o, r⟩ => by
  obtain ⟨F1, o1, e1⟩ := o.freeze hi
  exact ⟨F1, o1, m.mono _ _ _ _ (fun d p v F2 H2 b2 e2 => p v F2 H2 b2 (exT e1 e2)) (fun _ z => z) r⟩
theorem s_frzX (i : Nat) {ds : List D} {m : WP α} {G : α → List Sl} (hi : Γ[i]? = some (own K ds)) (h : PSs X A (tX K c E (Γ.set i (.imm (.list ds))) m G)) : PSs X A (tX K c E Γ m G) := pss_weak h fun D σ H ⟨F, o, r⟩ => by
  obtain ⟨F1, o1, e1⟩ := o.freeze hi
  exact ⟨F1, o1, m.mono _ _ _ _ (fun d p v F2 H2 b2 e2 => p v F2 H2 b2 (exT e1 e2)) (fun _ z => z) r⟩
theorem s_frzS (i : Nat) {ds : List D} {m : WP (Stp α)} {G : α → List Sl} (hi : Γ[i]? = some (own K ds)) (h : PSs X A (tS K c E (Γ.set i (.imm (.list ds))) m G)) : PSs X A (tS K c E Γ m G) := pss_weak h fun D σ H ⟨F, o, r⟩ => by
  obtain ⟨F1, o1, e1⟩ := o.freeze hi
  refine ⟨F1, o1, m.mono _ _ _ _ (fun d p => ?_) (fun _ z => z) r⟩
  cases d with
  | nx b => exact fun v F2 H2 b2 e2 => p v F2 H2 b2 (exT e1 e2)
  | rt b => exact fun v F2 H2 b2 e2 => p v F2 H2 b2 (exT e1 e2)
/-! assignments -/
theorem s_asg (i : Nat) {x : Str} {pos' : Pos} (hN : X.N.Nodup) (hi : X.N[i]? = some x) (hx : Loc X.env.scope x) (h : PE X e (tW K c E Γ m)) (hs : swapsWith e (some (.Name x pos')) pos.line X.env = pure false := by rfl) (hf : X.fn x = true ∨ X.env.scope.names.lookup x = some .local := by first | exact .inl rfl | exact .inr rfl | assumption) :
    PS X (.Assign [.Name x pos'] e pos) (tX K c E Γ m fun d => Γ.set i (.imm d)) :=
  ps_weak (ps_set hN hi hx h hs hf) fun D σ H ⟨F, o, r⟩ => ⟨F, o, m.mono _ _ _ _ (fun d p v F' H' o' g x => p _ F' H' (o'.set x) g.f) (fun _ z => z) r⟩
theorem s_asgO (i : Nat) {x : Str} {pos' : Pos} {m : WP (List D)} (hN : X.N.Nodup) (hi : X.N[i]? = some x) (hx : Loc X.env.scope x) (h : PE X e (tO K c E Γ m)) (hs : swapsWith e (some (.Name x pos')) pos.line X.env = pure false := by rfl) (hf : X.fn x = true ∨ X.env.scope.names.lookup x = some .local := by first | exact .inl rfl | exact .inr rfl | assumption) :
    PS X (.Assign [.Name x pos'] e pos) (tX K c E Γ m fun ds => Γ.set i (own K ds)) :=
  ps_weak (ps_set hN hi hx h hs hf) fun D σ H ⟨F, o, r⟩ => ⟨F, o, m.mono _ _ _ _ (fun ds p a vs F' H' o' g hn x => p _ F' _ (o'.setR ⟨a, vs, rfl, rfl, upd_same, x⟩ (fun b hb => by
    cases List.mem_singleton.mp hb
    exact ⟨hn, by rw [upd_same]; exact fun z => by cases z⟩) (Evl.Ex.new hn)) g.f) (fun _ z => z) r⟩
end
end GA
namespace GA
open PySem PySem.Spec PyProof.Rows L2

/-! argument lists with their length -/
def Len (n : Nat) (m : WP (List D)) : Prop := ∀ P E, m.run P E → m.run (fun ds => ds.length = n ∧ P ds) E
structure PL (X : Cx) (K : Nat → Addr) (c : C) (E : XK) (Γ : List Sl) (es : List Expr) (ms : WP (List D)) : Prop where
  pa : PA X es (tA K c E Γ ms)
  ln : Len es.length ms
section
variable {X : Cx} {K : Nat → Addr} {c : C} {E : XK} {Γ Γ' : List Sl} {e a b tg t : Expr} {m ma mb : WP D} {q : WP Bool} {pos : Pos} {F F' H H' : Hp} {σ : L2.St} {es : List Expr} {ms : WP (List D)}
theorem l_nil : PL X K c E Γ [] (.ret []) := ⟨a_nil, fun P E h => ⟨rfl, h⟩⟩
theorem l_cons (h : PE X e (tW K c E Γ m)) (t : PL X K c E Γ es ms) (hs : starEach (e :: es) X.env = (false, eval e X.env) :: starEach es X.env := by rfl) : PL X K c E Γ (e :: es) (m.bind fun d => ms.bind fun ds => .ret (d :: ds)) :=
  ⟨a_cons h t.pa hs, fun P E r => m.mono _ _ _ _ (fun d p => ms.mono _ _ _ _ (fun ds ⟨hl, p⟩ => ⟨by rw [List.length_cons, List.length_cons, hl], p⟩) (fun _ z => z) (t.ln _ _ p)) (fun _ z => z) r⟩
theorem o_list (h : PL X K c E Γ es ms) (hl : Nat.ble es.length 1000 = true := by rfl) : PE X (.List es pos) (tO K c E Γ ms) := pe_weak (pe_lst h.pa) fun σ H Q ⟨F, o, r⟩ =>
  ⟨F, o, ms.mono _ _ _ _ (fun ds ⟨l, p⟩ vs F' H' o' g x => ⟨by rw [dps_len x, l]; exact lim_le (Nat.le_trans (Nat.le_of_ble_eq_true hl) (by decide)), fun a ha => p a vs F' H' o' g ha x⟩) (fun _ z => z) (h.ln _ _ r)⟩
theorem e_tuple {x1 : Nat} (h : PL X K c E Γ es ms) (hl : Nat.ble es.length 1000 = true := by rfl) : PE X (.Tuple es x1 pos) (tW K c E Γ (ms.bind fun ds => .ret (.tuple ds))) := pe_weak (pe_tup h.pa) fun σ H Q ⟨F, o, r⟩ =>
  ⟨F, o, ms.mono _ _ _ _ (fun ds ⟨l, p⟩ vs F' H' o' g x => ⟨by rw [dps_len x, l]; exact lim_le (Nat.le_trans (Nat.le_of_ble_eq_true hl) (by decide)), fun a ha => p _ (upd F' a (.tup vs)) _ (o'.alloc ha) (g.trans (.new (ex_none o'.bs.fh ha) ha))
    (.tup upd_same (dps_mono (Evl.Ex.new (ex_none o'.bs.fh ha)) x))⟩) (fun _ z => z) (h.ln _ _ r)⟩
end

/-! operators -/
def dI2 (f : Int → Int → Option D) : D → D → Option D
  | .int i, .int j => f i j
  | _, _ => none
def dCatL : D → D → Option D
  | .list a, .list b => if a.length + b.length ≤ LIM then some (.list (a ++ b)) else none
  | _, _ => none
def dCatT : D → D → Option D
  | .tuple a, .tuple b => if a.length + b.length ≤ LIM then some (.tuple (a ++ b)) else none
  | _, _ => none
def dCatS : D → D → Option D
  | .str a, .str b => if a.length + b.length ≤ LIM then some (.str (a ++ b)) else none
  | _, _ => none
def dAdd : D → D → Option D
  | .int i, .int j => some (.int (i + j))
  | .list a, .list b => dCatL (.list a) (.list b)
  | .tuple a, .tuple b => dCatT (.tuple a) (.tuple b)
  | .str a, .str b => dCatS (.str a) (.str b)
  | _, _ => none
def dSub : D → D → Option D := dI2 fun i j => some (.int (i - j))
def dMulI : D → D → Option D := dI2 fun i j => if (-(2 ^ 64) < i ∧ i < 2 ^ 64) ∨ (-(2 ^ 64) < j ∧ j < 2 ^ 64) then some (.int (i * j)) else none
def dRep : D → D → Option D
  | .list a, .int k => if 0 ≤ k ∧ k ≤ 10000000 ∧ a.length * k.toNat ≤ LIM then some (.list (List.replicate k.toNat a).flatten) else none
  | _, _ => none
def dMul : D → D → Option D
  | .int i, .int j => dMulI (.int i) (.int j)
  | .list a, .int k => dRep (.list a) (.int k)
  | _, _ => none
def dDiv : D → D → Option D := dI2 fun i j => if 0 < j ∧ j < 1073741824 then some (.int (i / j)) else none
def dMod : D → D → Option D := dI2 fun i j => if 0 < j then some (.int (i % j)) else none
def dPow : D → D → Option D := dI2 fun i j => if 0 ≤ j ∧ j ≤ 1000000 ∧ i.natAbs < 2 ^ 64 then some (.int (i ^ j.toNat)) else none
def dShp (d : D) : Bool := SeqAt.shaped d
def dEq (a b : D) : Option D := if dShp a = true ∧ dShp b = true then some (.bool (PyData.eqv a b)) else none
def dNe (a b : D) : Option D := if dShp a = true ∧ dShp b = true then some (.bool (!PyData.eqv a b)) else none
def dLt : D → D → Option D := dI2 fun i j => some (.bool (decide (i < j)))
def dLe : D → D → Option D := dI2 fun i j => some (.bool (decide (i ≤ j)))
def dGt : D → D → Option D := dI2 fun i j => some (.bool (decide (j < i)))
def dGe : D → D → Option D := dI2 fun i j => some (.bool (decide (j ≤ i)))
def dInL (neg : Bool) : D → D → Option D
  | x, .list ds => if dShp x = true ∧ dShp (.list ds) = true then some (.bool (neg ^^ ds.any fun z => PyData.eqv z x)) else none
  | _, _ => none
def dFlat : D → Bool
  | .none => true
  | .bool _ => true
  | .int _ => true
  | .str _ => true
  | _ => false
def dInT (neg : Bool) : D → D → Option D
  | x, .tuple ds => if dFlat x = true ∧ ds.all dFlat = true then some (.bool (neg ^^ ds.any fun z => PyData.eqv z x)) else none
  | _, _ => none
def dInS (neg : Bool) : D → D → Option D
  | .str x, .str z => match x.cps.toList with
    | [c] => some (.bool (neg ^^ decide (c ∈ z.cps.toList)))
    | _ => none
  | _, _ => none
def dIn (x y : D) : Option D := match y with
  | .list _ => dInL false x y
  | .tuple _ => dInT false x y
  | .str _ => dInS false x y
  | _ => none
def dNotIn (x y : D) : Option D := match y with
  | .list _ => dInL true x y
  | .tuple _ => dInT true x y
  | .str _ => dInS true x y
  | _ => none
def dIsNone : D → Bool
  | .none => true
  | _ => false
def dIs (x y : D) : Option D := match x, y with
  | _, .none => some (.bool (dIsNone x))
  | .bool a, .bool b => some (.bool (decide (a = b)))
  | _, _ => none
def dIsNot (x y : D) : Option D := match x, y with
  | _, .none => some (.bool (!dIsNone x))
  | .bool a, .bool b => some (.bool (!decide (a = b)))
  | _, _ => none
def dAt : D → D → Option D
  | .list ds, .int i => atI ds i
  | .tuple ds, .int i => atI ds i
  | _, _ => none

section
variable {X : Cx} {K : Nat → Addr} {c : C} {E : XK} {Γ Γ' : List Sl} {F F' H H' : Hp} {σ : L2.St}
theorem od_int0 {g : Int → Int → V} {h : Int → Int → D} (hr : ∀ i j F, Rp K F (g i j) (h i j)) : OpD K (rI0 g) (dI2 fun i j => some (h i j)) := by
  intro c Γ σ F H x y d e z Q o hx hy hf q
  cases d <;> cases e <;> simp only [dI2] at hf <;> try cases hf
  exact ⟨_, _, hx.int, hy.int, q _ F H o .refl (hr _ _ F)⟩
theorem od_intC {C : Int → Int → Prop} {g : Int → Int → V} {f : Int → Int → Option D} (hr : ∀ i j z, f i j = some z → C i j ∧ ∀ F, Rp K F (g i j) z) : OpD K (rI C g) (dI2 f) := by
  intro c Γ σ F H x y d e z Q o hx hy hf q
  cases d <;> cases e <;> simp only [dI2] at hf <;> try cases hf
  obtain ⟨h1, h2⟩ := hr _ _ _ hf
  exact ⟨_, _, hx.int, hy.int, h1, q _ F H o .refl (h2 F)⟩
theorem od_sub : OpD K (rI0 fun i j => .int (i - j)) dSub := od_int0 fun _ _ _ => .int _
theorem od_lt : OpD K (rI0 fun i j => .bl (decide (i < j))) dLt := od_int0 fun _ _ _ => .bl _
theorem od_le : OpD K (rI0 fun i j => .bl (decide (i ≤ j))) dLe := od_int0 fun _ _ _ => .bl _
theorem od_gt : OpD K (rI0 fun i j => .bl (decide (j < i))) dGt := od_int0 fun _ _ _ => .bl _
theorem od_ge : OpD K (rI0 fun i j => .bl (decide (j ≤ i))) dGe := od_int0 fun _ _ _ => .bl _
theorem od_mulI : OpD K (rI CMul fun i j => .int (i * j)) dMulI := od_intC fun i j z h => by
  split at h
  · cases h; exact ⟨by assumption, fun _ => .int _⟩
  · cases h
theorem od_div : OpD K (rI CDiv fun i j => .int (i / j)) dDiv := od_intC fun i j z h => by
  split at h
  · cases h; exact ⟨by assumption, fun _ => .int _⟩
  · cases h
theorem od_mod : OpD K (rI (fun _ j => 0 < j) fun i j => .int (i % j)) dMod := od_intC fun i j z h => by
  split at h
  · cases h; exact ⟨by assumption, fun _ => .int _⟩
  · cases h
theorem od_pow : OpD K (rI CPow fun i j => .int (i ^ j.toNat)) dPow := od_intC fun i j z h => by
  split at h
  · cases h; exact ⟨by assumption, fun _ => .int _⟩
  · cases h
/-- a new list or tuple is frozen at once -/
theorem new_lst {p : Addr} {vs : List V} {ds : List D} {Q : VK} (o : Ok K c F H σ Γ) (hp : H p = none) (x : RpAll K F vs ds) (q : ∀ v F' H', Ok K c F' H' σ Γ → Gr c F H F' H' → Rp K F' v (.list ds) → Q v H') : Q (.ref p) (upd H p (.lst vs)) :=
  q _ (upd F p (.lst vs)) _ (o.alloc hp) (.new (ex_none o.bs.fh hp) hp) (.lst upd_same (dps_mono (Evl.Ex.new (ex_none o.bs.fh hp)) x))
theorem new_tup {p : Addr} {vs : List V} {ds : List D} {Q : VK} (o : Ok K c F H σ Γ) (hp : H p = none) (x : RpAll K F vs ds) (q : ∀ v F' H', Ok K c F' H' σ Γ → Gr c F H F' H' → Rp K F' v (.tuple ds) → Q v H') : Q (.ref p) (upd H p (.tup vs)) :=
  q _ (upd F p (.tup vs)) _ (o.alloc hp) (.new (ex_none o.bs.fh hp) hp) (.tup upd_same (dps_mono (Evl.Ex.new (ex_none o.bs.fh hp)) x))
theorem od_catL : OpD K rCat dCatL := by
  intro c Γ σ F H x y d e z Q o hx hy hf q
  cases d <;> cases e <;> simp only [dCatL] at hf <;> try cases hf
  rename_i xs ys
  split at hf <;> cases hf
  rename_i hl
  obtain ⟨a, vs, rfl, h1, t1⟩ := hx.list o.bs.fh
  obtain ⟨b, ws, rfl, h2, t2⟩ := hy.list o.bs.fh
  exact ⟨a, b, vs, ws, rfl, rfl, h1, h2, by rw [dps_len t1, dps_len t2]; exact lim_le hl, fun p hp => new_lst o hp (dps_append t1 t2) q⟩
theorem od_catT {W : PySem.W.Frag} : OpD K (rCatA W) dCatT := by
  intro c Γ σ F H x y d e z Q o hx hy hf q
  cases d <;> cases e <;> simp only [dCatT] at hf <;> try cases hf
  rename_i xs ys
  split at hf <;> cases hf
  rename_i hl
  obtain ⟨a, vs, rfl, h1, t1⟩ := hx.tup o.bs.fh
  obtain ⟨b, ws, rfl, h2, t2⟩ := hy.tup o.bs.fh
  have hx' : Rp K F (.ref a) (.tuple xs) := by
    rcases hx with hx | ⟨_, _, _, _, e, _⟩
    · exact hx
    · cases e
  have hy' : Rp K F (.ref b) (.tuple ys) := by
    rcases hy with hy | ⟨_, _, _, _, e, _⟩
    · exact hy
    · cases e
  refine ⟨a, b, vs, ws, rfl, rfl, .inl (.inl h1), .inl (.inl h2), by rw [dps_len t1, dps_len t2]; exact lim_le hl, ?_, ?_, fun _ _ p hp => new_tup o hp (dps_append t1 t2) q⟩
  · intro e
    subst e
    cases t1
    exact q _ F H o .refl hy'
  · intro _ e
    subst e
    cases t2
    rw [List.append_nil] at q
    exact q _ F H o .refl hx'
theorem od_catS : OpD K (fun x y H Q => ∃ i j, x = .str i ∧ y = .str j ∧ i.length + j.length ≤ sizeLine ∧ Q (.str (i ++ j)) H) dCatS := by
  intro c Γ σ F H x y d e z Q o hx hy hf q
  cases d <;> cases e <;> simp only [dCatS] at hf <;> try cases hf
  split at hf <;> cases hf
  rename_i hl
  exact ⟨_, _, hx.str, hy.str, lim_le hl, q _ F H o .refl (.str _)⟩
theorem od_add0 : OpD K (rI0 fun i j => .int (i + j)) (dI2 fun i j => some (.int (i + j))) := od_int0 fun _ _ _ => .int _
def rAddAll (W : PySem.W.Frag) : R2 := fun x y H Q => rI0 (fun i j => .int (i + j)) x y H Q ∨ rCat x y H Q ∨ rCatA W x y H Q ∨ ∃ i j, x = .str i ∧ y = .str j ∧ i.length + j.length ≤ sizeLine ∧ Q (.str (i ++ j)) H
theorem op_addAll : OpR X (binaryOp .Add) (rAddAll X.K) := op_add.or (op_cat.or (op_catA.or op_add_str))
theorem od_add {W : PySem.W.Frag} : OpD K (rAddAll W) dAdd := by
  intro c Γ σ F H x y d e z Q o hx hy hf q
  cases d <;> cases e <;> simp only [dAdd] at hf <;> try cases hf
  · exact .inl (od_add0 c Γ σ F H x y _ _ _ Q o hx hy rfl q)
  · exact .inr (.inr (.inr (od_catS c Γ σ F H x y _ _ _ Q o hx hy hf q)))
  · exact .inr (.inl (od_catL c Γ σ F H x y _ _ _ Q o hx hy hf q))
  · exact .inr (.inr (.inl (od_catT c Γ σ F H x y _ _ _ Q o hx hy hf q)))
end
end GA
namespace GA
open PySem PySem.Spec PyProof.Rows L2
section
variable {X : Cx} {K : Nat → Addr} {c : C} {E : XK} {Γ Γ' : List Sl} {F F' H H' : Hp} {σ : L2.St}
theorem dps_rep : ∀ {vs : List V} {ds : List D} (k : Nat), RpAll K F vs ds → RpAll K F (List.replicate k vs).flatten (List.replicate k ds).flatten
  | _, _, 0, _ => .nil
  | vs, ds, k + 1, t => by
    simp only [List.replicate_succ, List.flatten_cons]
    exact dps_append t (dps_rep k t)
theorem od_rep : OpD K rRep dRep := by
  intro c Γ σ F H x y d e z Q o hx hy hf q
  cases d <;> cases e <;> simp only [dRep] at hf <;> try cases hf
  rename_i xs k
  split at hf <;> cases hf
  rename_i hl
  obtain ⟨a, vs, rfl, h1, t1⟩ := hx.list o.bs.fh
  exact ⟨a, k, vs, rfl, hy.int, h1, by omega, by omega, by rw [dps_len t1]; exact lim_le hl.2.2, fun p hp => new_lst o hp (dps_rep _ t1) q⟩
def rMulAll : R2 := fun x y H Q => rI CMul (fun i j => .int (i * j)) x y H Q ∨ rRep x y H Q
theorem op_mulAll : OpR X (binaryOp .Mult) rMulAll := op_mul.or op_rep
theorem od_mul : OpD K rMulAll dMul := by
  intro c Γ σ F H x y d e z Q o hx hy hf q
  cases d <;> cases e <;> simp only [dMul] at hf <;> try cases hf
  · exact .inl (od_mulI c Γ σ F H x y _ _ _ Q o hx hy hf q)
  · exact .inr (od_rep c Γ σ F H x y _ _ _ Q o hx hy hf q)
/-! equality -/
theorem shp_lay {d : D} (h : dShp d = true) : d.canLay0 = true := SeqAt.canLay_of_shaped h
theorem RdOk.dp {W : PySem.W.Frag} {v : V} {d : D} (x : RdOk K c F H v d) (e : Ex F H) (h : dShp d = true) : Dp W H v d := rp_dp (x.rp e) (shp_lay h)
theorem od_eq {W : PySem.W.Frag} : OpD K (rEqD W) dEq := by
  intro c Γ σ F H x y d e z Q o hx hy hf q
  unfold dEq at hf
  split at hf <;> cases hf
  rename_i h
  exact ⟨d, e, hx.dp o.bs.fh h.1, hy.dp o.bs.fh h.2, h.1, h.2, q _ F H o .refl (.bl _)⟩
theorem od_ne {W : PySem.W.Frag} : OpD K (rNeD W) dNe := by
  intro c Γ σ F H x y d e z Q o hx hy hf q
  unfold dNe at hf
  split at hf <;> cases hf
  rename_i h
  exact ⟨d, e, hx.dp o.bs.fh h.1, hy.dp o.bs.fh h.2, h.1, h.2, q _ F H o .refl (.bl _)⟩
/-! in -/
theorem flat_rp {v : V} {d : D} (x : Rp K F v d) (h : dFlat d = true) : flatV v = true := by
  cases x <;> first | rfl | (simp [dFlat] at h)
theorem flats_rp : ∀ {vs : List V} {ds : List D}, RpAll K F vs ds → ds.all dFlat = true → vs.all flatV = true
  | _, _, .nil, _ => rfl
  | _, _, .cons (d := d) (ds := ds) h t, z => by
    have z' : dFlat d = true ∧ ds.all dFlat = true := by simpa using z
    rw [List.all_cons, flat_rp h z'.1, flats_rp t z'.2] <;> rfl
theorem eqV_rp {v w : V} {d e : D} (x : Rp K F v d) (y : Rp K F w e) (h : dFlat d = true) (h2 : dFlat e = true) : eqV v w = PyData.eqv d e := by
  cases x <;> cases y <;> first | (simp [dFlat] at h; done) | (simp [dFlat] at h2; done) | (simp [eqV, PyData.eqv]; done) | skip
  all_goals (rename_i p q; simp only [eqV, PyData.eqv])
  all_goals first | rfl | (cases p <;> simp) | (cases q <;> simp) | skip
theorem inV_rp {w : V} {e : D} (y : Rp K F w e) (h2 : dFlat e = true) : ∀ {vs : List V} {ds : List D}, RpAll K F vs ds → ds.all dFlat = true → inV w vs = ds.any fun z => PyData.eqv z e
  | _, _, .nil, _ => rfl
  | _, _, .cons (d := d) (ds := ds) h t, z => by
    have z' : dFlat d = true ∧ ds.all dFlat = true := by simpa using z
    have ih := inV_rp y h2 t z'.2
    unfold inV at ih ⊢
    rw [List.any_cons, List.any_cons, eqV_rp h y z'.1 h2, ih]
theorem RdOk.flat {v : V} {d : D} (x : RdOk K c F H v d) (h : dFlat d = true) : Rp K F v d := by
  rcases x with x | ⟨_, _, _, _, e, _⟩
  · exact x
  · subst e; simp [dFlat] at h
theorem od_inL {W : PySem.W.Frag} : OpD K (rInD W) (dInL false) := by
  intro c Γ σ F H x y d e z Q o hx hy hf q
  cases e <;> simp only [dInL] at hf <;> try cases hf
  split at hf <;> cases hf
  rename_i h
  exact ⟨d, _, hx.dp o.bs.fh h.1, hy.dp o.bs.fh h.2, h.1, h.2, q _ F H o .refl (by rw [Bool.false_xor]; exact .bl _)⟩
theorem od_notInL {W : PySem.W.Frag} : OpD K (rNotInD W) (dInL true) := by
  intro c Γ σ F H x y d e z Q o hx hy hf q
  cases e <;> simp only [dInL] at hf <;> try cases hf
  split at hf <;> cases hf
  rename_i h
  exact ⟨d, _, hx.dp o.bs.fh h.1, hy.dp o.bs.fh h.2, h.1, h.2, q _ F H o .refl (by rw [Bool.true_xor]; exact .bl _)⟩
theorem od_inT {W : PySem.W.Frag} {neg : Bool} : OpD K (rIn W neg) (dInT neg) := by
  intro c Γ σ F H x y d e z Q o hx hy hf q
  cases e <;> simp only [dInT] at hf <;> try cases hf
  split at hf <;> cases hf
  rename_i h
  obtain ⟨a, vs, rfl, h1, t1⟩ := hy.tup o.bs.fh
  have hx' := hx.flat h.1
  refine ⟨a, vs, rfl, .inr (.inl (.inl h1)), flat_rp hx' h.1, flats_rp t1 h.2, ?_⟩
  rw [inV_rp hx' h.1 t1 h.2]
  refine q _ F H o .refl ?_
  cases neg
  · rw [Bool.false_xor]; exact .bl _
  · rw [Bool.true_xor]; exact .bl _
theorem od_inS : OpD K (fun x y H Q => ∃ (c : Nat) (z : Str), x = .str ⟨#[c]⟩ ∧ y = .str z ∧ Q (.bl (decide (c ∈ z.cps.toList))) H) (dInS false) := by
  intro c Γ σ F H x y d e z Q o hx hy hf q
  cases d <;> cases e <;> simp only [dInS] at hf <;> try cases hf
  rename_i xs zs
  split at hf
  · rename_i k hk
    cases hf
    have ex : xs = ⟨#[k]⟩ := by
      cases xs with
      | mk a => simp at hk; rw [show a = #[k] from by rw [← Array.toList_inj]; simpa using hk]
    subst ex
    exact ⟨k, zs, hx.str, hy.str, q _ F H o .refl (by rw [Bool.false_xor]; exact .bl _)⟩
  · cases hf
theorem od_notInS : OpD K (fun x y H Q => ∃ (c : Nat) (z : Str), x = .str ⟨#[c]⟩ ∧ y = .str z ∧ Q (.bl (!decide (c ∈ z.cps.toList))) H) (dInS true) := by
  intro c Γ σ F H x y d e z Q o hx hy hf q
  cases d <;> cases e <;> simp only [dInS] at hf <;> try cases hf
  rename_i xs zs
  split at hf
  · rename_i k hk
    cases hf
    have ex : xs = ⟨#[k]⟩ := by
      cases xs with
      | mk a => simp at hk; rw [show a = #[k] from by rw [← Array.toList_inj]; simpa using hk]
    subst ex
    exact ⟨k, zs, hx.str, hy.str, q _ F H o .refl (by rw [Bool.true_xor]; exact .bl _)⟩
  · cases hf
def rInAll (W : PySem.W.Frag) : R2 := fun x y H Q => rInD W x y H Q ∨ rIn W false x y H Q ∨ ∃ (c : Nat) (z : Str), x = .str ⟨#[c]⟩ ∧ y = .str z ∧ Q (.bl (decide (c ∈ z.cps.toList))) H
def rNotInAll (W : PySem.W.Frag) : R2 := fun x y H Q => rNotInD W x y H Q ∨ rIn W true x y H Q ∨ ∃ (c : Nat) (z : Str), x = .str ⟨#[c]⟩ ∧ y = .str z ∧ Q (.bl (!decide (c ∈ z.cps.toList))) H
theorem op_inAll (hu : X.A.units + 65 < cLine) : OpR X (compareOp .In) (rInAll X.K) := (op_inD hu).or (op_in_seq.or op_in_sign)
theorem op_notInAll (hu : X.A.units + 65 < cLine) : OpR X (compareOp .NotIn) (rNotInAll X.K) := (op_notInD hu).or (op_notIn_seq.or op_notIn_sign)
theorem od_in {W : PySem.W.Frag} : OpD K (rInAll W) dIn := by
  intro c Γ σ F H x y d e z Q o hx hy hf q
  cases e <;> simp only [dIn] at hf <;> try cases hf
  · exact .inr (.inr (od_inS c Γ σ F H x y _ _ _ Q o hx hy hf q))
  · exact .inl (od_inL c Γ σ F H x y _ _ _ Q o hx hy hf q)
  · exact .inr (.inl (od_inT c Γ σ F H x y _ _ _ Q o hx hy hf q))
theorem od_notIn {W : PySem.W.Frag} : OpD K (rNotInAll W) dNotIn := by
  intro c Γ σ F H x y d e z Q o hx hy hf q
  cases e <;> simp only [dNotIn] at hf <;> try cases hf
  · exact .inr (.inr (od_notInS c Γ σ F H x y _ _ _ Q o hx hy hf q))
  · exact .inl (od_notInL c Γ σ F H x y _ _ _ Q o hx hy hf q)
  · exact .inr (.inl (od_inT c Γ σ F H x y _ _ _ Q o hx hy hf q))
/-! is -/
theorem isNone_rd {v : V} {d : D} (x : RdOk K c F H v d) : decide (v = .non) = dIsNone d := by
  rcases x with x | ⟨_, _, _, rfl, rfl, _⟩
  · cases x <;> first | rfl | (simp [dIsNone]; done)
  · simp [dIsNone]
def rIsAll : R2 := fun x y H Q => (y = .non ∧ Q (.bl (decide (x = .non))) H) ∨ rIsB x y H Q
def rIsNotAll : R2 := fun x y H Q => (y = .non ∧ Q (.bl (!decide (x = .non))) H) ∨ rNotB x y H Q
theorem op_isAll : OpR X (compareOp .Is) rIsAll := op_isN.or op_isBl
theorem op_isNotAll : OpR X (compareOp .IsNot) rIsNotAll := op_notN.or op_notBl
theorem od_is : OpD K rIsAll dIs := by
  intro c Γ σ F H x y d e z Q o hx hy hf q
  unfold dIs at hf
  split at hf
  · cases hf
    exact .inl ⟨hy.non, by rw [isNone_rd hx]; exact q _ F H o .refl (.bl _)⟩
  · cases hf
    exact .inr ⟨_, _, hx.bl, hy.bl, q _ F H o .refl (.bl _)⟩
  · cases hf
theorem od_isNot : OpD K rIsNotAll dIsNot := by
  intro c Γ σ F H x y d e z Q o hx hy hf q
  unfold dIsNot at hf
  split at hf
  · cases hf
    exact .inl ⟨hy.non, by rw [isNone_rd hx]; exact q _ F H o .refl (.bl _)⟩
  · cases hf
    exact .inr ⟨_, _, hx.bl, hy.bl, q _ F H o .refl (.bl _)⟩
  · cases hf
/-! subscripts -/
theorem atI_rp {vs : List V} {ds : List D} {i : Int} {d : D} (t : RpAll K F vs ds) (h : atI ds i = some d) : ∃ v, atI vs i = some v ∧ Rp K F v d := by
  unfold atI at h ⊢
  rw [dps_len t]
  cases e : ixN ds.length i with
  | none => rw [e] at h; cases h
  | some j =>
    rw [e] at h
    obtain ⟨v, h1, h2⟩ := dps_at t (show ds[j]? = some d from h)
    exact ⟨v, h1, h2⟩
theorem od_at {W : PySem.W.Frag} : OpD K (fun x y H Q => rIxL W x y H Q ∨ rIxT W x y H Q) dAt := by
  intro c Γ σ F H x y d e z Q o hx hy hf q
  cases d <;> cases e <;> simp only [dAt] at hf <;> try cases hf
  · obtain ⟨a, vs, rfl, h1, t1⟩ := hx.list o.bs.fh
    obtain ⟨v, h2, h3⟩ := atI_rp t1 hf
    exact .inl ⟨a, vs, _, v, rfl, hy.int, .inl (.inl h1), h2, q _ F H o .refl h3⟩
  · obtain ⟨a, vs, rfl, h1, t1⟩ := hx.tup o.bs.fh
    obtain ⟨v, h2, h3⟩ := atI_rp t1 hf
    exact .inr ⟨a, vs, _, v, rfl, hy.int, .inl (.inl h1), h2, q _ F H o .refl h3⟩
end
end GA
namespace GA
open PySem PySem.Spec PyProof.Rows L2
/-! comprehensions -/
def WP.noE {α : Type} (m : WP α) : WP α := ⟨fun P _ => m.run P fun _ => False, fun P P' E E' h g p => m.mono _ _ _ _ h (fun _ z => z) p⟩
def R.noE {α : Type} : R α → R α
  | .ok a => .ok a
  | _ => .bad
theorem WP.lift_noE {α : Type} (r : R α) : WP.lift r.noE = (WP.lift r).noE := by cases r <;> rfl
def WP.comp {α : Type} (f : D → Option α) (t : α → WP Bool) (y : α → WP D) : List D → WP (List D)
  | [] => .ret []
  | d :: ds => (WP.opt (f d)).bind fun a => (t a).noE.bind fun b => if b = true then (y a).noE.bind fun z => (WP.comp f t y ds).bind fun zs => .ret (z :: zs) else WP.comp f t y ds
def R.comp {α : Type} (f : D → Option α) (t : α → R Bool) (y : α → R D) : List D → R (List D)
  | [] => .ok []
  | d :: ds => (R.ofO (f d)).bind fun a => (t a).noE.bind fun b => if b = true then (y a).noE.bind fun z => (R.comp f t y ds).bind fun zs => .ok (z :: zs) else R.comp f t y ds
theorem WP.lift_ite {α : Type} {p : Prop} [Decidable p] (r s : R α) : WP.lift (if p then r else s) = if p then WP.lift r else WP.lift s := by split <;> rfl
theorem WP.lift_comp {α : Type} (f : D → Option α) (t : α → R Bool) (y : α → R D) : ∀ ds, WP.lift (R.comp f t y ds) = WP.comp f (fun a => .lift (t a)) (fun a => .lift (y a)) ds
  | [] => rfl
  | d :: ds => by
    simp only [R.comp, WP.comp, WP.lift_bind, WP.lift_noE, WP.lift_ite, WP.lift_comp f t y ds, WP.lift_ok]
def wipeG (Γ : List Sl) : List Nat → List Sl
  | [] => Γ
  | v :: vs => (wipeG Γ vs).set v .non
def rm (H : Hp) (p : Addr) : Hp := fun a => if a = p then none else H a
theorem rm_same {H : Hp} {p : Addr} : rm H p p = none := by unfold rm; rw [if_pos rfl]
theorem rm_ne {H : Hp} {p a : Addr} (h : a ≠ p) : rm H p a = H a := by unfold rm; rw [if_neg h]
theorem upd_rm {H : Hp} {p : Addr} {o : HO} (h : H p = some o) : upd (rm H p) p o = H := by
  funext a
  by_cases q : a = p
  · subst q; rw [upd_same, h]
  · rw [upd_ne q, rm_ne q]
theorem wipe_idem (σ : L2.St) : ∀ vs : List Nat, wipe (wipe σ vs) vs = wipe σ vs := by
  intro vs
  apply List.ext_getElem?
  intro i
  by_cases hi : i ∈ vs
  · have key : ∀ (τ : L2.St) (ws : List Nat), i ∈ ws → (wipe τ ws)[i]? = if i < τ.length then some none else none := by
      intro τ ws
      induction ws with
      | nil => intro h; cases h
      | cons w ws ih =>
        intro h
        unfold wipe
        by_cases e : w = i
        · subst e
          rw [List.getElem?_set]
          simp [wipe_length]
        · rw [List.getElem?_set_ne e]
          exact ih ((List.mem_cons.mp h).resolve_left fun z => e z.symm)
    rw [key _ _ hi, key _ _ hi, wipe_length]
  · rw [wipe_out hi]
section
variable {X : Cx} {K : Nat → Addr} {c : C} {E : XK} {Γ Γ' : List Sl} {F F' H H' : Hp} {σ : L2.St} {α : Type}
theorem Ok.setN {i : Nat} {v : Option V} (o : Ok K c F H σ Γ) : Ok K c F H (σ.set i v) (Γ.set i .non) := by
  obtain ⟨π, x⟩ := o
  refine ⟨π, x.bs, by simp [x.len], fun j s hj => ?_, x.fr, x.dj⟩
  by_cases q : i = j
  · subst q
    have hi : i < Γ.length := by
      have := (List.getElem?_eq_some_iff.mp hj).1
      simpa using this
    rw [List.getElem?_set_self hi] at hj
    cases hj
    exact ⟨_, List.getElem?_set_self (by rw [x.len]; exact hi), trivial⟩
  · rw [List.getElem?_set_ne q] at hj ⊢
    exact x.sl j s hj
theorem Ok.wipe (o : Ok K c F H σ Γ) : ∀ vs : List Nat, Ok K c F H (wipe σ vs) (wipeG Γ vs)
  | [] => o
  | v :: vs => (Ok.wipe o vs).setN
/-- back to the heap without the list that is being made -/
theorem Ok.back {F1 H1 F2 H2 : Hp} {p : Addr} {ob : HO} (o : Ok K c F1 H1 σ Γ) (hp : H1 p = none) (b : Bs c F2 H2) (g : Gr c F1 (upd H1 p ob) F2 H2) :
    Ok K c F2 (rm H2 p) σ Γ ∧ Gr c F1 H1 F2 (rm H2 p) ∧ H2 p = some ob := by
  have nx : ¬ c.ex p := fun z => o.bs.xh p z hp
  have h2 : H2 p = some ob := g.h p ob upd_same nx
  have f2 : F2 p = none := by
    cases e : F2 p with
    | none => rfl
    | some u =>
      rcases g.n p u e nx with q | q
      · rw [ex_none o.bs.fh hp] at q; cases q
      · rw [upd_same] at q; cases q
  have gh : ∀ a u, H1 a = some u → ¬ c.ex a → rm H2 p a = some u := fun a u e n => by
    have q : a ≠ p := fun z => by subst z; rw [hp] at e; cases e
    rw [rm_ne q]
    exact g.h a u (by rw [upd_ne q]; exact e) n
  have gn : ∀ a u, F2 a = some u → ¬ c.ex a → F1 a = some u ∨ H1 a = none := fun a u e n => by
    rcases g.n a u e n with q | q
    · exact .inl q
    · refine .inr ?_
      by_cases z : a = p
      · subst z; exact hp
      · rw [upd_ne z] at q; exact q
  have xe : ∀ a, c.ex a → a ≠ p := fun a ha z => nx (z ▸ ha)
  refine ⟨o.step gh (fun a ha => by rw [rm_ne (xe a ha)]; exact b.xh a ha) (c.rst H2 _ (fun a ha => rm_ne (xe a ha)) b.rv) g.f (fun a u e => ?_) (fun a u e => ?_), ⟨g.f, gh, gn⟩, h2⟩
  · have q : a ≠ p := fun z => by subst z; rw [f2] at e; cases e
    rw [rm_ne q]; exact b.fh a u e
  · by_cases n : c.ex a
    · rw [b.fx a n] at e; cases e
    · exact gn a u e n
theorem drop_get {ds : List D} {i : Nat} {d : D} (h : ds[i]? = some d) : ds.drop i = d :: ds.drop (i + 1) := by
  obtain ⟨h1, h2⟩ := List.getElem?_eq_some_iff.mp h
  rw [List.drop_eq_getElem_cons h1, h2]
theorem t_lc {ms : WP (List D)} {f : D → Option α} {G : α → List Sl} {vs : List Nat} {t : α → WP Bool} {y : α → WP D} {σ : L2.St} {H : Hp} {Q : VK}
    (h : tO K c E Γ (ms.bind fun ds => WP.comp f t y ds) σ H Q) :
    tLc (tJ K c E Γ ms) (tG K c (wipeG Γ vs) f G vs) (fun σ H Q => ∃ a, tT K c E0 (G a) (t a) σ H Q) (fun σ H Q => ∃ a, tW K c E0 (G a) (y a) σ H Q) vs σ H Q := by
  obtain ⟨F, o, r⟩ := h
  refine ⟨F, o, ms.mono _ _ _ _ (fun ds p J F1 H1 o1 g1 hl src Dl hD => ?_) (fun _ z => z) r⟩
  obtain ⟨GG, Y, w, hy⟩ := src
  have nx : ¬ c.ex Dl := fun z => o1.bs.xh Dl z hD
  refine lc_it w (g := tG K c (wipeG Γ vs) f G vs) (tt := fun σ H Q => ∃ a, tT K c E0 (G a) (t a) σ H Q) (te := fun σ H Q => ∃ a, tW K c E0 (G a) (y a) σ H Q) (vs := vs) (σ := σ) (H1 := H1) (D := Dl) (Qd := fun H => Q (.ref Dl) H) (fun i H' => ∃ F' H'' acc accD, Ok K c F' H'' σ Γ ∧ Gr c F1 H1 F' H'' ∧ H'' Dl = none ∧ H' = upd H'' Dl (.lst acc) ∧ RpAll K F' acc accD ∧ acc.length ≤ i ∧
    (WP.comp f t y (ds.drop i)).run (fun ys => ∀ p vs F' H', Ok K c F' H' σ Γ → Gr c F H F' H' → H' p = none → RpAll K F' vs (accD ++ ys) → Q (.ref p) (upd H' p (.lst vs))) (eK K E c)) ?_ ?_ ?_ ?_
  · exact ⟨F1, H1, [], [], o1, .refl, hD, rfl, .nil, Nat.zero_le _, by simpa using p⟩
  · rintro i H' hi ⟨F', H'', acc, accD, o', g', hn, rfl, ra, hle, rr⟩
    have ef : Ex F' (upd H'' Dl (.lst acc)) := exT o'.bs.fh (Evl.Ex.new hn)
    exact (hy F' _ ⟨g'.f, fun a u e n => Evl.Ex.new hn a u (g'.h a u e n), g'.n⟩ ef).1
  · rintro i x H' H2 hi ⟨F', H'', acc, accD, o', g', hn, rfl, ra, hle, rr⟩ hY
    have ef : Ex F' (upd H'' Dl (.lst acc)) := exT o'.bs.fh (Evl.Ex.new hn)
    obtain ⟨d, hd, yd⟩ := (hy F' _ ⟨g'.f, fun a u e n => Evl.Ex.new hn a u (g'.h a u e n), g'.n⟩ ef).2 i x H2 hi hY
    have oU : Ok K c F' (upd H'' Dl (.lst acc)) σ Γ := o'.grow (Evl.Ex.new hn) (exR F') ef fun a u e => .inl e
    obtain ⟨F2, o2, g2, rp⟩ := yd.ok (oU.wipe vs)
    rw [drop_get hd] at rr
    obtain ⟨a, ha, rr⟩ := WP.opt_run rr
    refine ⟨F2, d, a, o2, rp, ha, fun σ2 ok2 hw => ⟨by rw [hw, wipe_idem], ?_⟩⟩
    refine ⟨a, F2, ok2, (t a).mono _ _ _ _ (fun b rr F3 H3 o3 g3 => ?_) (fun _ z => z.elim) rr⟩
    cases b with
    | false =>
      show ∃ F' H'' acc accD, _
      obtain ⟨k1, k2, k3⟩ := o'.back hn o3.bs (g2.trans g3)
      exact ⟨F3, rm H3 Dl, acc, accD, k1, g'.trans k2, rm_same, (upd_rm k3).symm, dps_mono (g2.trans g3).f ra, Nat.le_succ_of_le hle, rr⟩
    | true =>
      show ∃ a, tW K c E0 (G a) (y a) σ2 H3 _
      refine ⟨a, F3, o3, (y a).mono _ _ _ _ (fun z rr v F4 H4 o4 g4 rz => ?_) (fun _ z => z.elim) rr⟩
      obtain ⟨k1, k2, k3⟩ := o'.back hn o4.bs ((g2.trans g3).trans g4)
      refine ⟨acc, k3, Nat.lt_of_le_of_lt hle (Nat.lt_of_lt_of_le hi hl), F4, rm H4 Dl, acc ++ [v], accD ++ [z], k1, g'.trans k2, rm_same, ?_, dps_append (dps_mono ((g2.trans g3).trans g4).f ra) (.cons rz .nil), by simp; omega, ?_⟩
      · rw [← upd_rm k3, upd_upd, upd_rm k3]
      · refine (WP.comp f t y _).mono _ _ _ _ (fun ys q p vs F5 H5 o5 g5 hp r5 => q p vs F5 H5 o5 g5 hp (by simpa using r5)) (fun _ z => z) rr
  · rintro H' ⟨F', H'', acc, accD, o', g', hn, rfl, ra, hle, rr⟩
    rw [List.drop_of_length_le (Nat.le_refl _)] at rr
    exact rr Dl acc F' H'' o' (g1.trans g') hn (by simpa using ra)
end
end GA
namespace GA
open PySem PySem.Spec PyProof.Rows L2
def dPair : D → Option (D × D)
  | .tuple [a, b] => some (a, b)
  | _ => none
section
variable {X : Cx} {K : Nat → Addr} {c : C} {E : XK} {Γ Γ' : List Sl} {F F' H H' : Hp} {σ : L2.St} {α β : Type} {pos : Pos} {tg iter elt cond : Expr}
theorem pg_weak {t t' : TG} (h : PG X tg t) (w : ∀ v σ H Q, t' v σ H Q → t v σ H Q) : PG X tg t' := ⟨fun pins s σ H v u Q I r q => h.run pins s σ H v u Q I r (w v σ H Q q)⟩
theorem g_name (i : Nat) {x : Str} (hN : X.N.Nodup) (hi : X.N[i]? = some x) (hx : Loc X.env.scope x) (hf : X.fn x = true ∨ X.env.scope.names.lookup x = some .local := by first | exact .inl rfl | exact .inr rfl | assumption) : PG X (.Name x pos) (tG K c Γ some (fun d => Γ.set i (.imm d)) [i]) :=
  pg_weak (pg_name hN hi hx hf) fun v σ H Q ⟨F, d, a, o, rp, hd, q⟩ => by
    cases hd
    refine q _ (o.set rp) ?_
    show (σ.set i (some v)).set i none = σ.set i none
    rw [List.set_set]
theorem dPair_some {d : D} {p : D × D} (h : dPair d = some p) : d = .tuple [p.1, p.2] := by
  unfold dPair at h
  split at h
  · cases h; rfl
  · cases h
theorem g_pair (i j : Nat) {x y : Str} {px py : Pos} {k : Nat} (hc : X.calm = true) (hN : X.N.Nodup) (hi : X.N[i]? = some x) (hj : X.N[j]? = some y) (hx : Loc X.env.scope x) (hy : Loc X.env.scope y)
    (hf : X.fn x = true ∨ X.env.scope.names.lookup x = some .local := by first | exact .inl rfl | exact .inr rfl | assumption) (hf2 : X.fn y = true ∨ X.env.scope.names.lookup y = some .local := by first | exact .inl rfl | exact .inr rfl | assumption)
    (hn : (assignEach [.Name x px, .Name y py] X.env).length = 2 := by rfl) (hst : (assignEach [.Name x px, .Name y py] X.env).findIdx? (·.1) = none := by rfl)
    (hs1 : (assignEach (.Name x px :: [.Name y py]) X.env).map (·.2) = assign (.Name x px) X.env :: (assignEach [.Name y py] X.env).map (·.2) := by rfl)
    (hs2 : (assignEach (.Name y py :: []) X.env).map (·.2) = assign (.Name y py) X.env :: (assignEach [] X.env).map (·.2) := by rfl) :
    PG X (.Tuple [.Name x px, .Name y py] k pos) (tG K c Γ dPair (fun p => (Γ.set i (.imm p.1)).set j (.imm p.2)) [i, j]) :=
  pg_weak (pg_tup hc (pgs_cons (pg_name hN hi hx hf) (pgs_cons (pg_name hN hj hy hf2) pgs_nil hs2) hs1) hn hst) fun v σ H Q ⟨F, d, a, o, rp, hd, q⟩ => by
    cases dPair_some hd
    cases rp with
    | tup h t =>
      cases t with
      | cons r1 t => cases t with
        | cons r2 t =>
          cases t
          refine ⟨_, _, rfl, .inl (.inl (o.bs.fh _ _ h)), rfl, _, _, rfl, _, _, rfl, rfl, q _ ((o.set r1).set r2) ?_⟩
          show ((((σ.set i _).set j _).set j none).set i none) = (σ.set j none).set i none
          rw [List.set_set]
          by_cases e : i = j
          · subst e; simp [List.set_set]
          · rw [List.set_comm _ _ e, List.set_set]
/-! comprehensions -/
theorem pts_ex {X : Cx} {es : List Expr} {u : α → TT} (h : ∀ a, PTs X es (u a)) : PTs X es (fun σ H Q => ∃ a, u a σ H Q) := ⟨fun pins s σ H Q I ⟨a, q⟩ => (h a).run pins s σ H Q I q⟩
theorem pe_ex {X : Cx} {e : Expr} {u : α → TE} (h : ∀ a, PE X e (u a)) : PE X e (fun σ H Q => ∃ a, u a σ H Q) := ⟨fun pins s σ H Q I ⟨a, q⟩ => (h a).run pins s σ H Q I q⟩
theorem pg_ex {X : Cx} {e : Expr} {u : α → TG} (h : ∀ a, PG X e (u a)) : PG X e (fun v σ H Q => ∃ a, u a v σ H Q) := ⟨fun pins s σ H v w Q I r ⟨a, q⟩ => (h a).run pins s σ H v w Q I r q⟩
theorem pts_none {X : Cx} : PTs X [] (tT K c E Γ (.ret true)) := ⟨fun pins s σ H Q I ⟨F, o, r⟩ => pts_nil.run pins s σ H Q I (r F H o .refl)⟩
variable {ms : WP (List D)} {f : D → Option α} {G : α → List Sl} {t : α → WP Bool} {y : α → WP D} {scope : Scope} {own : List (Str × Nat)}
theorem o_lc (hc : X.calm = true) (hN : X.N.Nodup) (hi : PI X tg iter (tJ K c E Γ ms)) (ok : blkC X.N X.env.scope scope own = true)
    (hg : ∀ (s : Shared) (H : Hp) (C : Addr) (cl : List (Str × Addr)) (fp : List Addr), PG (X.blk s H scope (compEnvC scope cl C X.env) fp) tg (tG K c (wipeG Γ (own.map (·.2))) f G (own.map (·.2))))
    (ht : ∀ (s : Shared) (H : Hp) (C : Addr) (cl : List (Str × Addr)) (fp : List Addr) (a : α), PT (X.blk s H scope (compEnvC scope cl C X.env) fp) cond (tT K c E0 (G a) (t a)))
    (he : ∀ (s : Shared) (H : Hp) (C : Addr) (cl : List (Str × Addr)) (fp : List Addr) (a : α), PE (X.blk s H scope (compEnvC scope cl C X.env) fp) elt (tW K c E0 (G a) (y a)))
    (hs : ∀ x, foldedSetIterable iter X.env x = pure x := by intro _; rfl) : PE X (.ListComp elt [⟨tg, iter, [cond], 0⟩] scope pos) (tO K c E Γ (ms.bind fun ds => WP.comp f t y ds)) :=
  pe_weak (pe_lc hc hN hi (blkOk_by ok) hg (fun s H C cl fp => pts_ex fun a => pts_one (ht s H C cl fp a)) (fun s H C cl fp => pe_ex fun a => he s H C cl fp a) hs) fun σ H Q h => t_lc h
theorem o_lc0 (hc : X.calm = true) (hN : X.N.Nodup) (hi : PI X tg iter (tJ K c E Γ ms)) (ok : blkC X.N X.env.scope scope own = true)
    (hg : ∀ (s : Shared) (H : Hp) (C : Addr) (cl : List (Str × Addr)) (fp : List Addr), PG (X.blk s H scope (compEnvC scope cl C X.env) fp) tg (tG K c (wipeG Γ (own.map (·.2))) f G (own.map (·.2))))
    (he : ∀ (s : Shared) (H : Hp) (C : Addr) (cl : List (Str × Addr)) (fp : List Addr) (a : α), PE (X.blk s H scope (compEnvC scope cl C X.env) fp) elt (tW K c E0 (G a) (y a)))
    (hs : ∀ x, foldedSetIterable iter X.env x = pure x := by intro _; rfl) : PE X (.ListComp elt [⟨tg, iter, [], 0⟩] scope pos) (tO K c E Γ (ms.bind fun ds => WP.comp f (fun _ => .ret true) y ds)) :=
  pe_weak (pe_lc hc hN hi (blkOk_by ok) hg (fun s H C cl fp => pts_ex fun a => pts_none) (fun s H C cl fp => pe_ex fun a => he s H C cl fp a) hs) fun σ H Q h => t_lc h
/-- name = [..] on one line, the name a local -/
theorem s_lc (i : Nat) {x : Str} {py spos : Pos} (hc : X.calm = true) (hN : X.N.Nodup) (hx : X.N[i]? = some x) (hxl : X.env.scope.names.lookup x = some .local)
    (hsw : swapsWith (.ListComp elt [⟨tg, iter, [cond], 0⟩] scope pos) (some (.Name x py)) spos.line X.env = pure true) (hi : PI X tg iter (tJ K c E Γ ms)) (ok : blkC X.N X.env.scope scope own = true)
    (hg : ∀ (s : Shared) (H : Hp) (C : Addr) (cl : List (Str × Addr)) (fp : List Addr), PG (X.blk s H scope (compEnvC scope cl C X.env) fp) tg (tG K c (wipeG Γ (own.map (·.2))) f G (own.map (·.2))))
    (ht : ∀ (s : Shared) (H : Hp) (C : Addr) (cl : List (Str × Addr)) (fp : List Addr) (a : α), PT (X.blk s H scope (compEnvC scope cl C X.env) fp) cond (tT K c E0 (G a) (t a)))
    (he : ∀ (s : Shared) (H : Hp) (C : Addr) (cl : List (Str × Addr)) (fp : List Addr) (a : α), PE (X.blk s H scope (compEnvC scope cl C X.env) fp) elt (tW K c E0 (G a) (y a)))
    (hs : ∀ x, foldedSetIterable iter X.env x = pure x := by intro _; rfl) : PS X (.Assign [.Name x py] (.ListComp elt [⟨tg, iter, [cond], 0⟩] scope pos) spos) (tX K c E Γ ((ms.bind fun ds => WP.comp f t y ds).bind fun ds => .ret (.list ds)) fun d => Γ.set i (.imm d)) :=
  ps_weak (ps_setLc hc hN hx hxl hsw hi (blkOk_by ok) hg (fun s H C cl fp => pts_ex fun a => pts_one (ht s H C cl fp a)) (fun s H C cl fp => pe_ex fun a => he s H C cl fp a) hs) fun D σ H ⟨F, o, r⟩ => by
    refine t_lc ⟨F, o, (ms.bind fun ds => WP.comp f t y ds).mono _ _ _ _ (fun ds p a vs F' H' o' g hn x => ?_) (fun _ z => z) r⟩
    exact p _ (upd F' a (.lst vs)) _ ((o'.alloc hn).set (.lst upd_same (dps_mono (Evl.Ex.new (ex_none o'.bs.fh hn)) x))) (exT g.f (Evl.Ex.new (ex_none o'.bs.fh hn)))
theorem s_lc0 (i : Nat) {x : Str} {py spos : Pos} (hc : X.calm = true) (hN : X.N.Nodup) (hx : X.N[i]? = some x) (hxl : X.env.scope.names.lookup x = some .local)
    (hsw : swapsWith (.ListComp elt [⟨tg, iter, [], 0⟩] scope pos) (some (.Name x py)) spos.line X.env = pure true) (hi : PI X tg iter (tJ K c E Γ ms)) (ok : blkC X.N X.env.scope scope own = true)
    (hg : ∀ (s : Shared) (H : Hp) (C : Addr) (cl : List (Str × Addr)) (fp : List Addr), PG (X.blk s H scope (compEnvC scope cl C X.env) fp) tg (tG K c (wipeG Γ (own.map (·.2))) f G (own.map (·.2))))
    (he : ∀ (s : Shared) (H : Hp) (C : Addr) (cl : List (Str × Addr)) (fp : List Addr) (a : α), PE (X.blk s H scope (compEnvC scope cl C X.env) fp) elt (tW K c E0 (G a) (y a)))
    (hs : ∀ x, foldedSetIterable iter X.env x = pure x := by intro _; rfl) : PS X (.Assign [.Name x py] (.ListComp elt [⟨tg, iter, [], 0⟩] scope pos) spos) (tX K c E Γ ((ms.bind fun ds => WP.comp f (fun _ => .ret true) y ds).bind fun ds => .ret (.list ds)) fun d => Γ.set i (.imm d)) :=
  ps_weak (ps_setLc hc hN hx hxl hsw hi (blkOk_by ok) hg (fun s H C cl fp => pts_ex fun a => pts_none) (fun s H C cl fp => pe_ex fun a => he s H C cl fp a) hs) fun D σ H ⟨F, o, r⟩ => by
    refine t_lc ⟨F, o, (ms.bind fun ds => WP.comp f (fun _ => .ret true) y ds).mono _ _ _ _ (fun ds p a vs F' H' o' g hn x => ?_) (fun _ z => z) r⟩
    exact p _ (upd F' a (.lst vs)) _ ((o'.alloc hn).set (.lst upd_same (dps_mono (Evl.Ex.new (ex_none o'.bs.fh hn)) x))) (exT g.f (Evl.Ex.new (ex_none o'.bs.fh hn)))
end
/-! loops -/
def WP.fold {α β : Type} (f : D → Option β) (s : α → β → WP α) : List D → α → WP α
  | [], a => .ret a
  | d :: ds, a => (WP.opt (f d)).bind fun b => (s a b).bind fun a' => WP.fold f s ds a'
def R.fold {α β : Type} (f : D → Option β) (s : α → β → R α) : List D → α → R α
  | [], a => .ok a
  | d :: ds, a => (R.ofO (f d)).bind fun b => (s a b).bind fun a' => R.fold f s ds a'
def WP.foldS {α β : Type} (f : D → Option β) (s : α → β → WP (Stp α)) : List D → α → WP (Stp α)
  | [], a => .ret (.nx a)
  | d :: ds, a => (WP.opt (f d)).bind fun b => (s a b).seq fun a' => WP.foldS f s ds a'
def R.foldS {α β : Type} (f : D → Option β) (s : α → β → R (Stp α)) : List D → α → R (Stp α)
  | [], a => .ok (.nx a)
  | d :: ds, a => (R.ofO (f d)).bind fun b => (s a b).seq fun a' => R.foldS f s ds a'
def WP.whl {α : Type} (t : α → WP Bool) (s : α → WP α) : Nat → α → WP α
  | 0, _ => .opt none
  | n + 1, a => (t a).bind fun b => if b = true then (s a).bind fun a' => WP.whl t s n a' else .ret a
def R.whl {α : Type} (t : α → R Bool) (s : α → R α) : Nat → α → R α
  | 0, _ => .ofO none
  | n + 1, a => (t a).bind fun b => if b = true then (s a).bind fun a' => R.whl t s n a' else .ok a
theorem WP.lift_seq {α β : Type} (m : R (Stp α)) (f : α → R (Stp β)) : WP.lift (m.seq f) = (WP.lift m).seq fun a => WP.lift (f a) := by
  cases m with
  | ok a => cases a <;> rfl
  | err k => rfl
  | bad => rfl
theorem WP.lift_seqE {α : Type} (m : R (Stp α)) (f : α → R D) : WP.lift (m.seqE f) = (WP.lift m).seqE fun a => WP.lift (f a) := by
  cases m with
  | ok a => cases a <;> rfl
  | err k => rfl
  | bad => rfl
theorem WP.lift_fold {α β : Type} (f : D → Option β) (s : α → β → R α) : ∀ ds a, WP.lift (R.fold f s ds a) = WP.fold f (fun a b => .lift (s a b)) ds a
  | [], a => rfl
  | d :: ds, a => by simp only [R.fold, WP.fold, WP.lift_bind, WP.lift_fold f s ds]
theorem WP.lift_foldS {α β : Type} (f : D → Option β) (s : α → β → R (Stp α)) : ∀ ds a, WP.lift (R.foldS f s ds a) = WP.foldS f (fun a b => .lift (s a b)) ds a
  | [], a => rfl
  | d :: ds, a => by simp only [R.foldS, WP.foldS, WP.lift_bind, WP.lift_seq, WP.lift_foldS f s ds]
theorem WP.lift_whl {α : Type} (t : α → R Bool) (s : α → R α) : ∀ n a, WP.lift (R.whl t s n a) = WP.whl (fun a => .lift (t a)) (fun a => .lift (s a)) n a
  | 0, a => rfl
  | n + 1, a => by simp only [R.whl, WP.whl, WP.lift_bind, WP.lift_ite, WP.lift_whl t s n, WP.lift_ok]
section
variable {X : Cx} {K : Nat → Addr} {c : C} {E : XK} {Γ Γ' : List Sl} {F F' H H' : Hp} {σ : L2.St} {α β : Type} {pos : Pos} {tg iter : Expr} {body : List Stmt} {ms : WP (List D)} {f : D → Option β} {Ga : α → List Sl} {G : α → β → List Sl} {vs : List Nat}
theorem s_for {a0 : α} {s : α → β → WP α} (hp : PassesOwn (model X.prog X.w) X.A X.env X.xe) (hc : X.calm = true) (hi : PI X tg iter (tI K c E Γ ms)) (l : Le Γ (Ga a0)) (hg : ∀ a, PG X tg (tG K c (Ga a) f (G a) vs)) (hb : ∀ a b, PSs X body (tX K c E (G a b) (s a b) Ga))
    (hs : ∀ x, foldedSetIterable iter X.env x = pure x := by intro _; rfl) : PS X (.For tg iter body [] pos) (tX K c E Γ (ms.bind fun ds => WP.fold f s ds a0) Ga) :=
  ps_weak (ps_for hp hc hi (pg_ex hg) (pss_ex (α := α × β) fun p => hb p.1 p.2) hs) fun D σ H ⟨F, o, r⟩ => by
    refine ⟨F, o, ms.mono _ _ _ _ (fun ds p J F1 H1 o1 g1 hl src => ?_) (fun _ z => z) r⟩
    obtain ⟨GG, Y, w, hy⟩ := src
    refine for_it w (g := fun v σ H Q => ∃ a, tG K c (Ga a) f (G a) vs v σ H Q) (tb := fun D σ H => ∃ p : α × β, tX K c E (G p.1 p.2) (s p.1 p.2) Ga D σ H) (D := D) (σ := σ) (H := H1) (fun i σ' H' => ∃ F' a, Ok K c F' H' σ' (Ga a) ∧ Ex F1 F' ∧
      (WP.fold f s (ds.drop i) a).run (fun a => ∀ σ' F' H', Ok K c F' H' σ' (Ga a) → Ex F F' → D.nx σ' H') (eK K E c)) ?_ ?_ ?_ ?_
    · exact ⟨F1, a0, o1.le l, exR F1, p⟩
    · rintro i σ' H' hi ⟨F', a, o', e', rr⟩
      exact (hy F' H' e' o'.bs.fh).1
    · rintro i x σ' H' H2 hi ⟨F', a, o', e', rr⟩ hY
      obtain ⟨d, hd, yd⟩ := (hy F' H' e' o'.bs.fh).2 i x H2 hi hY
      obtain ⟨F2, o2, g2, rp⟩ := yd.ok o'
      rw [drop_get hd] at rr
      obtain ⟨b, hb', rr⟩ := WP.opt_run rr
      refine ⟨a, F2, d, b, o2, rp, hb', fun σ2 ok2 hw => ⟨(a, b), F2, ok2, (s a b).mono _ _ _ _ (fun a' rr σ3 F3 H3 o3 e3 => ?_) (fun _ z => z) rr⟩⟩
      exact ⟨F3, a', o3, exT e' (exT g2.f e3), rr⟩
    · rintro σ' H' ⟨F', a, o', e', rr⟩
      rw [List.drop_of_length_le (Nat.le_refl _)] at rr
      exact rr σ' F' H' o' (exT g1.f e')
theorem s_forS {a0 : α} {s : α → β → WP (Stp α)} (hp : PassesOwn (model X.prog X.w) X.A X.env X.xe) (hc : X.calm = true) (hi : PI X tg iter (tI K c E Γ ms)) (l : Le Γ (Ga a0)) (hg : ∀ a, PG X tg (tG K c (Ga a) f (G a) vs)) (hb : ∀ a b, PSs X body (tS K c E (G a b) (s a b) Ga))
    (hs : ∀ x, foldedSetIterable iter X.env x = pure x := by intro _; rfl) : PS X (.For tg iter body [] pos) (tS K c E Γ (ms.bind fun ds => WP.foldS f s ds a0) Ga) :=
  ps_weak (ps_for hp hc hi (pg_ex hg) (pss_ex (α := α × β) fun p => hb p.1 p.2) hs) fun D σ H ⟨F, o, r⟩ => by
    refine ⟨F, o, ms.mono _ _ _ _ (fun ds p J F1 H1 o1 g1 hl src => ?_) (fun _ z => z) r⟩
    obtain ⟨GG, Y, w, hy⟩ := src
    refine for_it w (g := fun v σ H Q => ∃ a, tG K c (Ga a) f (G a) vs v σ H Q) (tb := fun D σ H => ∃ p : α × β, tS K c E (G p.1 p.2) (s p.1 p.2) Ga D σ H) (D := D) (σ := σ) (H := H1) (fun i σ' H' => ∃ F' a, Ok K c F' H' σ' (Ga a) ∧ Ex F1 F' ∧
      (WP.foldS f s (ds.drop i) a).run (fun o => match o with
        | .nx a => ∀ σ' F' H', Ok K c F' H' σ' (Ga a) → Ex F F' → D.nx σ' H'
        | .rt d => ∀ v F' H', Bs c F' H' → Ex F F' → Rp K F' v d → D.rt v H') (eK K E c)) ?_ ?_ ?_ ?_
    · exact ⟨F1, a0, o1.le l, exR F1, p⟩
    · rintro i σ' H' hi ⟨F', a, o', e', rr⟩
      exact (hy F' H' e' o'.bs.fh).1
    · rintro i x σ' H' H2 hi ⟨F', a, o', e', rr⟩ hY
      obtain ⟨d, hd, yd⟩ := (hy F' H' e' o'.bs.fh).2 i x H2 hi hY
      obtain ⟨F2, o2, g2, rp⟩ := yd.ok o'
      rw [drop_get hd] at rr
      obtain ⟨b, hb', rr⟩ := WP.opt_run rr
      refine ⟨a, F2, d, b, o2, rp, hb', fun σ2 ok2 hw => ⟨(a, b), F2, ok2, (s a b).mono _ _ _ _ (fun st rr => ?_) (fun _ z => z) rr⟩⟩
      cases st with
      | nx a' => exact fun σ3 F3 H3 o3 e3 => ⟨F3, a', o3, exT e' (exT g2.f e3), rr⟩
      | rt d' => exact fun v F3 H3 b3 e3 r3 => rr v F3 H3 b3 (exT g1.f (exT e' (exT g2.f e3))) r3
    · rintro σ' H' ⟨F', a, o', e', rr⟩
      rw [List.drop_of_length_le (Nat.le_refl _)] at rr
      exact rr σ' F' H' o' (exT g1.f e')
theorem pt_ex {X : Cx} {e : Expr} {u : α → TT} (h : ∀ a, PT X e (u a)) : PT X e (fun σ H Q => ∃ a, u a σ H Q) := ⟨fun pins s σ H Q I ⟨a, q⟩ => (h a).run pins s σ H Q I q⟩
theorem s_while (n : Nat) {a0 : α} {t : Expr} {q : α → WP Bool} {s : α → WP α} (hp : PassesOwn (model X.prog X.w) X.A X.env X.xe) (l : Le Γ (Ga a0)) (ht : ∀ a, PT X t (tT K c E (Ga a) (q a))) (hb : ∀ a, PSs X body (tX K c E (Ga a) (s a) Ga)) :
    PS X (.While t body [] pos) (tX K c E Γ (WP.whl q s n a0) Ga) :=
  ps_weak (ps_while hp (pt_ex ht) (pss_ex hb)) fun D σ H ⟨F, o, r⟩ => by
    refine ⟨fun m σ' H' => ∃ F' a, Ok K c F' H' σ' (Ga a) ∧ Ex F F' ∧ (WP.whl q s m a).run (fun a => ∀ σ' F' H', Ok K c F' H' σ' (Ga a) → Ex F F' → D.nx σ' H') (eK K E c), ⟨n, F, a0, o.le l, exR F, r⟩, ?_⟩
    rintro m σ' H' ⟨F', a, o', e', rr⟩
    cases m with
    | zero => exact (show False from rr).elim
    | succ m =>
      refine ⟨a, F', o', (q a).mono _ _ _ _ (fun b rr F2 H2 o2 g2 => ?_) (fun _ z => z) rr⟩
      cases b with
      | true =>
        rw [if_pos rfl]
        refine ⟨_, fun σ3 H3 (h : ∃ F' a, Ok K c F' H3 σ3 (Ga a) ∧ Ex F F' ∧ (WP.whl q s m a).run (fun a => ∀ σ' F' H', Ok K c F' H' σ' (Ga a) → Ex F F' → D.nx σ' H') (eK K E c)) => ⟨m, Nat.lt_succ_self m, h⟩, a, F2, o2, (s a).mono _ _ _ _ (fun a' rr σ3 F3 H3 o3 e3 => ?_) (fun _ z => z) rr⟩
        exact ⟨F3, a', o3, exT e' (exT g2.f e3), rr⟩
      | false =>
        rw [if_neg Bool.false_ne_true]
        exact rr σ' F2 H2 o2 (exT e' g2.f)
end
end GA
namespace GA
open PySem PySem.Spec PyProof.Rows L2
/-! built-in functions -/
def CallD (K : Nat → Addr) (r : List V → Hp → VK → Prop) (f : List D → Option D) : Prop := ∀ (c : C) (Γ : List Sl) (σ : L2.St) (F H : Hp) (vs : List V) (ds : List D) (z : D) (Q : VK), Ok K c F H σ Γ → RdAll K c F H vs ds → f ds = some z →
  (∀ v F' H', Ok K c F' H' σ Γ → Gr c F H F' H' → Rp K F' v z → Q v H') → r vs H Q
def dInts : List D → Option (List Int)
  | [] => some []
  | .int i :: ds => (dInts ds).map (i :: ·)
  | _ :: _ => none
def dBools : List D → Option (List Bool)
  | [] => some []
  | .bool i :: ds => (dBools ds).map (i :: ·)
  | _ :: _ => none
def dLen : List D → Option D
  | [.list ds] => some (.int (ds.length : Nat))
  | [.tuple ds] => some (.int (ds.length : Nat))
  | [.str z] => if z.length ≤ LIM then some (.int (z.length : Nat)) else none
  | _ => none
def maxI : List Int → Option Int
  | [] => none
  | x :: xs => some (xs.foldl (fun a b => if a < b then b else a) x)
def minI : List Int → Option Int
  | [] => none
  | x :: xs => some (xs.foldl (fun a b => if b < a then b else a) x)
def dMax : List D → Option D
  | [.list ds] => (dInts ds).bind fun ns => (maxI ns).map .int
  | [.int i, .int j] => some (.int (if j > i then j else i))
  | _ => none
def dMin : List D → Option D
  | [.list ds] => (dInts ds).bind fun ns => (minI ns).map .int
  | [.int i, .int j] => some (.int (if j < i then j else i))
  | _ => none
def dSum : List D → Option D
  | [.list ds] => (dInts ds).map fun ns => .int ns.sum
  | _ => none
def dAll : List D → Option D
  | [.list ds] => (dBools ds).map fun bs => .bool (bs.all id)
  | _ => none
def dAbs : List D → Option D
  | [.int i] => some (.int (if i < 0 then -i else i))
  | _ => none
def dListOf : List D → Option D
  | [.list ds] => some (.list ds)
  | [.tuple ds] => some (.list ds)
  | _ => none
def dTupOf : List D → Option D
  | [.list ds] => some (.tuple ds)
  | [.tuple ds] => some (.tuple ds)
  | _ => none
def insI (x : Int) : List Int → List Int
  | [] => [x]
  | y :: ys => if x ≤ y then x :: y :: ys else y :: insI x ys
def sortI : List Int → List Int
  | [] => []
  | x :: xs => insI x (sortI xs)
def dSortI : List D → Option D
  | [.list ds] => (dInts ds).map fun ns => .list ((sortI ns).map .int)
  | _ => none
/-! lists of ints, sorted -/
theorem insI_perm (x : Int) : ∀ xs, (insI x xs).Perm (x :: xs)
  | [] => .refl _
  | y :: ys => by
    unfold insI
    split
    · exact .refl _
    · exact ((insI_perm x ys).cons y).trans (.swap x y ys)
theorem sortI_perm : ∀ xs, (sortI xs).Perm xs
  | [] => .refl _
  | x :: xs => (insI_perm x _).trans ((sortI_perm xs).cons x)
theorem insI_sorted (x : Int) : ∀ xs, xs.Pairwise (· ≤ ·) → (insI x xs).Pairwise (· ≤ ·)
  | [], _ => by simp [insI]
  | y :: ys, h => by
    unfold insI
    have h' := List.pairwise_cons.mp h
    split
    · rename_i hxy
      refine List.pairwise_cons.mpr ⟨fun z hz => ?_, h⟩
      rcases List.mem_cons.mp hz with rfl | hz
      · exact hxy
      · exact Int.le_trans hxy (h'.1 z hz)
    · rename_i hxy
      refine List.pairwise_cons.mpr ⟨fun z hz => ?_, insI_sorted x ys h'.2⟩
      rcases List.mem_cons.mp ((insI_perm x ys).mem_iff.mp hz) with rfl | hz
      · omega
      · exact h'.1 z hz
theorem sortI_sorted : ∀ xs, (sortI xs).Pairwise (· ≤ ·)
  | [] => List.Pairwise.nil
  | x :: xs => insI_sorted x _ (sortI_sorted xs)
theorem sorted_unique {xs ys : List Int} (p : xs.Perm ys) (h1 : xs.Pairwise (· ≤ ·)) (h2 : ys.Pairwise (· ≤ ·)) : xs = ys :=
  p.eq_of_pairwise (fun a b _ _ h1 h2 => Int.le_antisymm h1 h2) h1 h2
section
variable {X : Cx} {K : Nat → Addr} {c : C} {E : XK} {Γ Γ' : List Sl} {F F' H H' : Hp} {σ : L2.St} {pos : Pos} {e a b : Expr} {es : List Expr} {ms : WP (List D)} {m ma mb : WP D}
theorem e_callB {r : List V → Hp → VK → Prop} {f : List D → Option D} {x : Str} {p : Pos} {id : String} (hc : CallR X (.builtin id) r) (hr : CallD K r f) (hg : Gl X x) (hm : X.mg x = none) (hv : bootBuiltins x = some (.builtin id)) (ha : PA X (e :: es) (tRA K c E Γ ms)) (hn : x ≠ "__name__" := by decide) (hdb : (x == ("__debug__" : Str)) = false := by decide)
    (he : starEach (e :: es) X.env = (false, eval e X.env) :: starEach es X.env := by rfl) (hpl : (backTo pos (starEach es X.env)).any (·.1) = false := by rfl) : PE X (.Call (.Name x p) (e :: es) [] pos) (tW K c E Γ (ms.bind fun ds => .opt (f ds))) :=
  pe_weak (pe_callB hc hg hm hv ha hn hdb he hpl) fun σ H Q ⟨F, o, h⟩ => ⟨F, o, ms.mono _ _ _ _ (fun ds p vs F1 H1 o1 g1 x1 => by
    obtain ⟨z, hz, p⟩ := WP.opt_run p
    exact hr c Γ σ F1 H1 vs ds z Q o1 x1 hz fun v F' H' o' g' x' => p v F' H' o' (g1.trans g') x') (fun _ z => z) h⟩
theorem e_callTy {r : List V → Hp → VK → Prop} {f : List D → Option D} {x : Str} {p : Pos} {T : String} (hc : CallR X (.type T) r) (hr : CallD K r f) (hg : Gl X x) (hm : X.mg x = none) (hv : bootBuiltins x = some (.type T)) (ha : PA X (e :: es) (tRA K c E Γ ms)) (hn : x ≠ "__name__" := by decide) (hdb : (x == ("__debug__" : Str)) = false := by decide)
    (he : starEach (e :: es) X.env = (false, eval e X.env) :: starEach es X.env := by rfl) (hpl : (backTo pos (starEach es X.env)).any (·.1) = false := by rfl) : PE X (.Call (.Name x p) (e :: es) [] pos) (tW K c E Γ (ms.bind fun ds => .opt (f ds))) :=
  pe_weak (pe_callTy hc hg hm hv ha hn hdb he hpl) fun σ H Q ⟨F, o, h⟩ => ⟨F, o, ms.mono _ _ _ _ (fun ds p vs F1 H1 o1 g1 x1 => by
    obtain ⟨z, hz, p⟩ := WP.opt_run p
    exact hr c Γ σ F1 H1 vs ds z Q o1 x1 hz fun v F' H' o' g' x' => p v F' H' o' (g1.trans g') x') (fun _ z => z) h⟩
theorem rd1 {vs : List V} {d : D} (h : RdAll K c F H vs [d]) : ∃ v, vs = [v] ∧ RdOk K c F H v d := by
  cases h with
  | cons h t => cases t; exact ⟨_, rfl, h⟩
theorem rd2 {vs : List V} {d e : D} (h : RdAll K c F H vs [d, e]) : ∃ v w, vs = [v, w] ∧ RdOk K c F H v d ∧ RdOk K c F H w e := by
  cases h with
  | cons h t => cases t with
    | cons h2 t => cases t; exact ⟨_, _, rfl, h, h2⟩
theorem ints_rp : ∀ {vs : List V} {ds : List D} {ns : List Int}, RpAll K F vs ds → dInts ds = some ns → vs = ns.map V.int
  | _, _, _, .nil, h => by cases h; rfl
  | _, _, _, .cons (d := d) (ds := ds) x t, h => by
    cases d <;> simp only [dInts] at h <;> try cases h
    cases e : dInts ds with
    | none => rw [e] at h; cases h
    | some ms => rw [e] at h; cases h; cases x; rw [ints_rp t e]; rfl
theorem bools_rp : ∀ {vs : List V} {ds : List D} {ns : List Bool}, RpAll K F vs ds → dBools ds = some ns → vs = ns.map V.bl
  | _, _, _, .nil, h => by cases h; rfl
  | _, _, _, .cons (d := d) (ds := ds) x t, h => by
    cases d <;> simp only [dBools] at h <;> try cases h
    cases e : dBools ds with
    | none => rw [e] at h; cases h
    | some ms => rw [e] at h; cases h; cases x; rw [bools_rp t e]; rfl
theorem rp_ints : ∀ ns : List Int, RpAll K F (ns.map V.int) (ns.map PyData.int)
  | [] => .nil
  | n :: ns => .cons (.int n) (rp_ints ns)
theorem cd_len {W : PySem.W.Frag} : CallD K (fun xs H Q => ∃ x n, xs = [x] ∧ LenV W x H n ∧ Q (.int n) H) dLen := by
  intro c Γ σ F H vs ds z Q o hx hf q
  unfold dLen at hf
  split at hf
  · cases hf
    obtain ⟨v, rfl, h⟩ := rd1 hx
    obtain ⟨a, vs, rfl, h1, t1⟩ := h.list o.bs.fh
    exact ⟨_, vs.length, rfl, .inl ⟨vs, .inl (.inl h1), rfl⟩, q _ F H o .refl (by rw [dps_len t1]; exact .int _)⟩
  · cases hf
    obtain ⟨v, rfl, h⟩ := rd1 hx
    obtain ⟨a, vs, rfl, h1, t1⟩ := h.tup o.bs.fh
    exact ⟨_, vs.length, rfl, .inr ⟨vs, .inl (.inl h1), rfl⟩, q _ F H o .refl (by rw [dps_len t1]; exact .int _)⟩
  · split at hf <;> cases hf
    rename_i hl
    obtain ⟨v, rfl, h⟩ := rd1 hx
    cases h.str
    exact ⟨_, _, rfl, ⟨lim_le hl, rfl⟩, q _ F H o .refl (.int _)⟩
  · cases hf
theorem foldl_max_ge : ∀ (xs : List Int) (x : Int), x ≤ xs.foldl (fun a b => if a < b then b else a) x ∧ ∀ y, y ∈ xs → y ≤ xs.foldl (fun a b => if a < b then b else a) x
  | [], x => ⟨Int.le_refl _, fun _ h => nomatch h⟩
  | z :: xs, x => by
    obtain ⟨h1, h2⟩ := foldl_max_ge xs (if x < z then z else x)
    have h3 : x ≤ (if x < z then z else x) ∧ z ≤ (if x < z then z else x) := by split <;> omega
    refine ⟨Int.le_trans h3.1 h1, fun y hy => ?_⟩
    rcases List.mem_cons.mp hy with rfl | hy
    · exact Int.le_trans h3.2 h1
    · exact h2 y hy
theorem foldl_max_mem : ∀ (xs : List Int) (x : Int), xs.foldl (fun a b => if a < b then b else a) x = x ∨ xs.foldl (fun a b => if a < b then b else a) x ∈ xs
  | [], x => .inl rfl
  | z :: xs, x => by
    rcases foldl_max_mem xs (if x < z then z else x) with h | h
    · rw [List.foldl_cons, h]
      split
      · exact .inr List.mem_cons_self
      · exact .inl rfl
    · exact .inr (List.mem_cons_of_mem _ h)
theorem maxI_spec {ns : List Int} {m : Int} (h : maxI ns = some m) : m ∈ ns ∧ ∀ y, y ∈ ns → y ≤ m := by
  cases ns with
  | nil => cases h
  | cons x xs =>
    cases h
    refine ⟨?_, fun y hy => ?_⟩
    · rcases foldl_max_mem xs x with h | h
      · rw [h]; exact List.mem_cons_self
      · exact List.mem_cons_of_mem _ h
    · rcases List.mem_cons.mp hy with rfl | hy
      · exact (foldl_max_ge xs y).1
      · exact (foldl_max_ge xs x).2 y hy
theorem foldl_min_le : ∀ (xs : List Int) (x : Int), xs.foldl (fun a b => if b < a then b else a) x ≤ x ∧ ∀ y, y ∈ xs → xs.foldl (fun a b => if b < a then b else a) x ≤ y
  | [], x => ⟨Int.le_refl _, fun _ h => nomatch h⟩
  | z :: xs, x => by
    obtain ⟨h1, h2⟩ := foldl_min_le xs (if z < x then z else x)
    have h3 : (if z < x then z else x) ≤ x ∧ (if z < x then z else x) ≤ z := by split <;> omega
    refine ⟨Int.le_trans h1 h3.1, fun y hy => ?_⟩
    rcases List.mem_cons.mp hy with rfl | hy
    · exact Int.le_trans h1 h3.2
    · exact h2 y hy
theorem foldl_min_mem : ∀ (xs : List Int) (x : Int), xs.foldl (fun a b => if b < a then b else a) x = x ∨ xs.foldl (fun a b => if b < a then b else a) x ∈ xs
  | [], x => .inl rfl
  | z :: xs, x => by
    rcases foldl_min_mem xs (if z < x then z else x) with h | h
    · rw [List.foldl_cons, h]
      split
      · exact .inr List.mem_cons_self
      · exact .inl rfl
    · exact .inr (List.mem_cons_of_mem _ h)
theorem minI_spec {ns : List Int} {m : Int} (h : minI ns = some m) : m ∈ ns ∧ ∀ y, y ∈ ns → m ≤ y := by
  cases ns with
  | nil => cases h
  | cons x xs =>
    cases h
    refine ⟨?_, fun y hy => ?_⟩
    · rcases foldl_min_mem xs x with h | h
      · rw [h]; exact List.mem_cons_self
      · exact List.mem_cons_of_mem _ h
    · rcases List.mem_cons.mp hy with rfl | hy
      · exact (foldl_min_le xs y).1
      · exact (foldl_min_le xs x).2 y hy
def rMaxAll (W : PySem.W.Frag) : List V → Hp → VK → Prop := fun xs H Q => rMax W xs H Q ∨ ∃ i j, xs = [.int i, .int j] ∧ Q (.int (if j > i then j else i)) H
def rMinAll (W : PySem.W.Frag) : List V → Hp → VK → Prop := fun xs H Q => rMin W xs H Q ∨ ∃ i j, xs = [.int i, .int j] ∧ Q (.int (if j < i then j else i)) H
theorem cr_maxAll (hc : X.calm = true) : CallR X (.builtin "max") (rMaxAll X.K) := (cr_max hc).or (call_max2 hc)
theorem cr_minAll (hc : X.calm = true) : CallR X (.builtin "min") (rMinAll X.K) := (cr_min hc).or (call_min2 hc)
theorem cd_max {W : PySem.W.Frag} : CallD K (rMaxAll W) dMax := by
  intro c Γ σ F H vs ds z Q o hx hf q
  unfold dMax at hf
  split at hf
  · rename_i ds
    obtain ⟨v, rfl, h⟩ := rd1 hx
    obtain ⟨a, vs, rfl, h1, t1⟩ := h.list o.bs.fh
    cases e : dInts ds with
    | none => rw [e] at hf; cases hf
    | some ns =>
      rw [e] at hf
      cases e2 : maxI ns with
      | none => simp [e2] at hf
      | some m =>
        simp [e2] at hf
        subst hf
        obtain ⟨hm1, hm2⟩ := maxI_spec e2
        cases ints_rp t1 e
        refine .inl ⟨a, ns, rfl, .inl (.inl h1), List.length_pos_of_mem hm1, fun m' h3 h4 => ?_⟩
        have : m' = m := Int.le_antisymm (hm2 m' h3) (h4 m hm1)
        subst this
        exact q _ F H o .refl (.int _)
  · cases hf
    obtain ⟨v, w, rfl, h, h2⟩ := rd2 hx
    exact .inr ⟨_, _, by rw [h.int, h2.int], q _ F H o .refl (.int _)⟩
  · cases hf
theorem cd_min {W : PySem.W.Frag} : CallD K (rMinAll W) dMin := by
  intro c Γ σ F H vs ds z Q o hx hf q
  unfold dMin at hf
  split at hf
  · rename_i ds
    obtain ⟨v, rfl, h⟩ := rd1 hx
    obtain ⟨a, vs, rfl, h1, t1⟩ := h.list o.bs.fh
    cases e : dInts ds with
    | none => rw [e] at hf; cases hf
    | some ns =>
      rw [e] at hf
      cases e2 : minI ns with
      | none => simp [e2] at hf
      | some m =>
        simp [e2] at hf
        subst hf
        obtain ⟨hm1, hm2⟩ := minI_spec e2
        cases ints_rp t1 e
        refine .inl ⟨a, ns, rfl, .inl (.inl h1), List.length_pos_of_mem hm1, fun m' h3 h4 => ?_⟩
        have : m' = m := Int.le_antisymm (h4 m hm1) (hm2 m' h3)
        subst this
        exact q _ F H o .refl (.int _)
  · cases hf
    obtain ⟨v, w, rfl, h, h2⟩ := rd2 hx
    exact .inr ⟨_, _, by rw [h.int, h2.int], q _ F H o .refl (.int _)⟩
  · cases hf
theorem cd_sum {W : PySem.W.Frag} : CallD K (rSum W) dSum := by
  intro c Γ σ F H vs ds z Q o hx hf q
  unfold dSum at hf
  split at hf
  · rename_i ds
    obtain ⟨v, rfl, h⟩ := rd1 hx
    obtain ⟨a, vs, rfl, h1, t1⟩ := h.list o.bs.fh
    cases e : dInts ds with
    | none => rw [e] at hf; cases hf
    | some ns =>
      rw [e] at hf
      cases hf
      cases ints_rp t1 e
      exact ⟨a, ns, rfl, .inl (.inl h1), q _ F H o .refl (.int _)⟩
  · cases hf
theorem cd_all {W : PySem.W.Frag} : CallD K (rAll W) dAll := by
  intro c Γ σ F H vs ds z Q o hx hf q
  unfold dAll at hf
  split at hf
  · rename_i ds
    obtain ⟨v, rfl, h⟩ := rd1 hx
    obtain ⟨a, vs, rfl, h1, t1⟩ := h.list o.bs.fh
    cases e : dBools ds with
    | none => rw [e] at hf; cases hf
    | some ns =>
      rw [e] at hf
      cases hf
      cases bools_rp t1 e
      exact ⟨a, ns, rfl, .inl (.inl h1), q _ F H o .refl (.bl _)⟩
  · cases hf
theorem cd_abs : CallD K (fun xs H Q => ∃ i, xs = [.int i] ∧ Q (.int (if i < 0 then -i else i)) H) dAbs := by
  intro c Γ σ F H vs ds z Q o hx hf q
  unfold dAbs at hf
  split at hf
  · cases hf
    obtain ⟨v, rfl, h⟩ := rd1 hx
    exact ⟨_, by rw [h.int], q _ F H o .refl (.int _)⟩
  · cases hf
theorem cd_sortI {W : PySem.W.Frag} : CallD K (rSortedI W) dSortI := by
  intro c Γ σ F H vs ds z Q o hx hf q
  unfold dSortI at hf
  split at hf
  · rename_i ds
    obtain ⟨v, rfl, h⟩ := rd1 hx
    obtain ⟨a, vs, rfl, h1, t1⟩ := h.list o.bs.fh
    cases e : dInts ds with
    | none => rw [e] at hf; cases hf
    | some ns =>
      rw [e] at hf
      cases hf
      cases ints_rp t1 e
      refine ⟨a, ns, rfl, .inl (.inl h1), fun ns' p hp hs hn => ?_⟩
      rw [sorted_unique (hp.trans (sortI_perm ns).symm) hs (sortI_sorted ns)]
      exact new_lst o hn (rp_ints _) q
  · cases hf
theorem cd_list {W : PySem.W.Frag} : CallD K (fun xs H Q => ∃ p ys, xs = [.ref p] ∧ (SqL W H p ys ∨ SqT W H p ys) ∧ ∀ l, H l = none → Q (.ref l) (upd H l (.lst ys))) dListOf := by
  intro c Γ σ F H vs ds z Q o hx hf q
  unfold dListOf at hf
  split at hf
  · cases hf
    obtain ⟨v, rfl, h⟩ := rd1 hx
    obtain ⟨a, vs, rfl, h1, t1⟩ := h.list o.bs.fh
    exact ⟨a, vs, rfl, .inl (.inl (.inl h1)), fun l hl => new_lst o hl t1 q⟩
  · cases hf
    obtain ⟨v, rfl, h⟩ := rd1 hx
    obtain ⟨a, vs, rfl, h1, t1⟩ := h.tup o.bs.fh
    exact ⟨a, vs, rfl, .inr (.inl (.inl h1)), fun l hl => new_lst o hl t1 q⟩
  · cases hf
theorem cd_tuple {W : PySem.W.Frag} : CallD K (fun xs H Q => ∃ p ys, xs = [.ref p] ∧ ((SqL W H p ys ∧ ∀ l, H l = none → Q (.ref l) (upd H l (.tup ys))) ∨ (SqT W H p ys ∧ Q (.ref p) H))) dTupOf := by
  intro c Γ σ F H vs ds z Q o hx hf q
  unfold dTupOf at hf
  split at hf
  · cases hf
    obtain ⟨v, rfl, h⟩ := rd1 hx
    obtain ⟨a, vs, rfl, h1, t1⟩ := h.list o.bs.fh
    exact ⟨a, vs, rfl, .inl ⟨.inl (.inl h1), fun l hl => new_tup o hl t1 q⟩⟩
  · cases hf
    obtain ⟨v, rfl, h⟩ := rd1 hx
    have h' := h
    obtain ⟨a, vs, rfl, h1, t1⟩ := h.tup o.bs.fh
    refine ⟨a, vs, rfl, .inr ⟨.inl (.inl h1), q _ F H o .refl ?_⟩⟩
    rcases h' with h' | ⟨_, _, _, _, e, _⟩
    · exact h'
    · cases e
  · cases hf
/-! list(range(..)) -/
theorem o_listRg {p p2 pos2 : Pos} (hc : X.calm = true) (hg : Gl X "list") (hm : X.mg "list" = none) (hg2 : Gl X "range") (hm2 : X.mg "range" = none) (ha : PE X a (tR K c E Γ ma)) (na : starEach [a] X.env = (false, eval a X.env) :: starEach [] X.env := by rfl)
    (na2 : starEach [.Call (.Name "range" p2) [a] [] pos2] X.env = (false, eval (.Call (.Name "range" p2) [a] [] pos2) X.env) :: starEach [] X.env := by rfl) :
    PE X (.Call (.Name "list" p) [.Call (.Name "range" p2) [a] [] pos2] [] pos) (tO K c E Γ (ma.bind fun d => .opt (dRange1 [d]))) :=
  pe_weak (pe_listRg hc hg hm (prg_1 hg2 hm2 ha na) na2) fun σ H Q ⟨F, o, h⟩ => ⟨F, o, ma.mono _ _ _ _ (fun d p v F1 H1 o1 g1 x1 => by
    obtain ⟨es, hd, p⟩ := WP.opt_run p
    unfold dRange1 at hd
    split at hd
    · rename_i n e
      cases e
      split at hd
      · rename_i hn
        cases hd
        refine ⟨n, x1.int, ⟨by omega, by omega, by omega, by omega, by omega⟩, fun q hq => ?_⟩
        refine p q _ F1 H1 o1 g1 hq ?_
        have e1 : ∀ k : Nat, RpAll K F1 ((List.range k).map fun (i : Nat) => V.int (0 + (i : Int))) ((List.range k).map fun (i : Nat) => PyData.int (0 + (i : Int))) := fun k => by
          induction k with
          | zero => exact .nil
          | succ k ih =>
            rw [List.range_succ, List.map_append, List.map_append]
            exact dps_append ih (.cons (.int _) .nil)
        unfold rgV dRng
        rw [Int.sub_zero]
        exact e1 _
      · cases hd
    · cases hd) (fun _ z => z) h⟩
/-! isinstance -/
def tyName : D → String
  | .none => "NoneType"
  | .bool _ => "bool"
  | .int _ => "int"
  | .str _ => "str"
  | .list _ => "list"
  | .tuple _ => "tuple"
  | .dict _ => "dict"
inductive Ty where | int | bool | list | tuple | str
def Ty.name : Ty → String
  | .int => "int" | .bool => "bool" | .list => "list" | .tuple => "tuple" | .str => "str"
def isT : Ty → D → Bool
  | .int, .int _ => true
  | .int, .bool _ => true
  | .bool, .bool _ => true
  | .list, .list _ => true
  | .tuple, .tuple _ => true
  | .str, .str _ => true
  | _, _ => false
def dIsTy (T : Ty) : D → Option D
  | .dict _ => none
  | d => some (.bool (isT T d))
theorem kitB_isT {T : Ty} {d z : D} (h : dIsTy T d = some z) : kitB (tyName d) T.name = some (isT T d) ∧ z = .bool (isT T d) := by
  cases d with
  | dict _ => cases h
  | none => cases h; exact ⟨by cases T <;> (simp only [tyName, isT]; decide +kernel), rfl⟩
  | bool _ => cases h; exact ⟨by cases T <;> (simp only [tyName, isT]; decide +kernel), rfl⟩
  | int _ => cases h; exact ⟨by cases T <;> (simp only [tyName, isT]; decide +kernel), rfl⟩
  | str _ => cases h; exact ⟨by cases T <;> (simp only [tyName, isT]; decide +kernel), rfl⟩
  | list _ => cases h; exact ⟨by cases T <;> (simp only [tyName, isT]; decide +kernel), rfl⟩
  | tuple _ => cases h; exact ⟨by cases T <;> (simp only [tyName, isT]; decide +kernel), rfl⟩
theorem tyX_rd {W : PySem.W.Frag} {v : V} {d : D} {T : Ty} {z : D} (x : RdOk K c F H v d) (e : Ex F H) (h : dIsTy T d = some z) : TyX W H v (.type (tyName d)) ∧ ∃ r, kitB (tyName d) T.name = some r ∧ z = .bool r := by
  have key := kitB_isT h
  have x := x.rp e
  cases x with
  | non => exact ⟨.base .non, _, key⟩
  | bl b => exact ⟨.base (.bl b), _, key⟩
  | int i => exact ⟨.base (.int i), _, key⟩
  | str y => exact ⟨.base (.str y), _, key⟩
  | lst q t => exact ⟨.base (.lst q), _, key⟩
  | tup q t => exact ⟨.base (.tup q), _, key⟩
  | exc q t => cases h
theorem e_isi {p p2 : Pos} (T : Ty) {y : Str} (hg : Gl X "isinstance") (hm : X.mg "isinstance" = none) (hg2 : Gl X y) (hm2 : X.mg y = none) (hv : bootBuiltins y = some (.type T.name)) (ha : PE X a (tR K c E Γ ma)) (hn : y ≠ "__name__" := by decide) (hd : (y == ("__debug__" : Str)) = false := by decide)
    (hs : starEach (a :: [.Name y p2]) X.env = (false, eval a X.env) :: starEach [.Name y p2] X.env := by rfl) (hs2 : starEach [.Name y p2] X.env = (false, eval (.Name y p2) X.env) :: starEach [] X.env := by rfl) (hpl : (backTo pos (starEach [.Name y p2] X.env)).any (·.1) = false := by rfl) :
    PE X (.Call (.Name "isinstance" p) [a, .Name y p2] [] pos) (tW K c E Γ (ma.bind fun d => .opt (dIsTy T d))) :=
  pe_weak (pe_callB call_isi hg hm (by decide +kernel) (pa_cons ha (pa_cons (pe_bltn (v := .ty T.name) hg2 hm2 hv rfl hn hd) pa_nil hs2) hs) (by decide) (by decide) hs hpl) fun σ H Q ⟨F, o, h⟩ => ⟨F, o, ma.mono _ _ _ _ (fun d p v F1 H1 o1 g1 x1 => by
    obtain ⟨z, hz, p⟩ := WP.opt_run p
    obtain ⟨h1, r, h2, rfl⟩ := tyX_rd (W := X.K) x1 o1.bs.fh hz
    exact ⟨v, .ty T.name, _, _, r, rfl, .ty T.name, h1, kit_ty h2, p _ F1 H1 o1 g1 (.bl r)⟩) (fun _ z => z) h⟩
end
end GA
namespace GA
open PySem PySem.Spec PyProof.Rows L2
def dPush (ds : List D) (d : D) : Option (List D) := if ds.length < LIM then some (ds ++ [d]) else none
def dExt (ds : List D) : D → Option (List D)
  | .list es => if ds.length + es.length ≤ LIM then some (ds ++ es) else none
  | _ => none
def dSet (ds : List D) (d : D) : D → Option (List D)
  | .int i => (ixN ds.length i).map fun j => ds.set j d
  | _ => none
def idxOf (x : D) : List D → Option Nat
  | [] => none
  | d :: ds => if PyData.eqv d x = true then some 0 else (idxOf x ds).map (· + 1)
def dIndex (ds : List D) (x : D) : Option D := if dShp (.list ds) = true ∧ dShp x = true then (idxOf x ds).map fun j => .int (j : Nat) else none
def dCount (ds : List D) : D → Option D
  | .int k => (dInts ds).map fun ns => .int (ns.count k : Nat)
  | _ => none
section
variable {X : Cx} {K : Nat → Addr} {c : C} {E : XK} {Γ Γ' : List Sl} {F F' H H' : Hp} {σ : L2.St} {pos : Pos} {e a b : Expr} {es : List Expr} {ms : WP (List D)} {m ma mb : WP D}
theorem Ok.own_at {i : Nat} {ds : List D} (o : Ok K c F H σ Γ) (h : Γ[i]? = some (own K ds)) : ∃ a vs, σ[i]? = some (some (.ref a)) ∧ H a = some (.lst vs) ∧ RpAll K F vs ds ∧ ¬ c.ex a := by
  obtain ⟨π, x⟩ := o
  obtain ⟨ov, h1, v, rfl, a, vs, rfl, h2, h3, h4⟩ := x.sl i _ h
  exact ⟨a, vs, h1, h3, h4, fun z => x.bs.hx a z (x.fr i a (by rw [h2]; exact List.mem_singleton.mpr rfl)).2.2⟩
/-- x.append(e) -/
theorem s_app (i : Nat) {x : Str} {ds : List D} {p apos cpos : Pos} (hN : X.N[i]? = some x) (hv : Vis X.env.scope x) (hi : Γ[i]? = some (own K ds)) (he : PE X e (tW K c E Γ m)) (hd : (x == ("__debug__" : Str)) = false := by decide) (hcd : (x == ("__classdict__" : Str)) = false := by decide)
    (hbase : attributeBase (.Name x p) "append" X.env (eval (.Name x p) X.env) = eval (.Name x p) X.env := by rfl)
    (hfew : ((backTo cpos (starEach (e :: []) X.env)).all (fun x => !x.1) && (backToKw cpos (keywordEach [] X.env)).all (fun x => x.1.isSome)
      && decide ((e :: []).length + ([] : List Keyword).length + (if ([] : List Keyword).isEmpty then 0 else 1) < 30)) = true := by rfl)
    (hline : (apos.endLine == cpos.line) = true := by rfl) (hs : starEach (e :: []) X.env = (false, eval e X.env) :: starEach [] X.env := by rfl) (hplain : (backTo cpos (starEach [] X.env)).any (·.1) = false := by rfl)
    (hsw : swapsWith (.Call (.Attribute (.Name x p) "append" apos) [e] [] cpos) none pos.line X.env = pure false := by rfl) :
    PS X (.Expr (.Call (.Attribute (.Name x p) "append" apos) [e] [] cpos) pos) (tX K c E Γ (m.bind fun d => .opt (dPush ds d)) fun ds' => Γ.set i (own K ds')) :=
  ps_weak (ps_expr (pe_bm PySem.F.plainAttrs_list PySem.F.slot_list_append PySem.F.type_list_append mt_append (pe_var hN hv hd hcd) (pa_cons he pa_nil hs) hbase hfew hline hs hplain) hsw) fun D σ H ⟨F, o, r⟩ => by
    obtain ⟨a, vs, h1, h2, t2, n2⟩ := o.own_at hi
    refine ⟨_, h1, .inl ⟨rfl, vs, .inl (.inl h2)⟩, F, o, m.mono _ _ _ _ (fun d p v F1 H1 o1 g1 x1 => ?_) (fun _ z => z) r⟩
    obtain ⟨es, hes, p⟩ := WP.opt_run p
    unfold dPush at hes
    split at hes <;> cases hes
    rename_i hl
    obtain ⟨a', vs', q0, q1, q2, q3⟩ := o1.write (ds' := ds) hi h1
    cases q0
    exact ⟨a, vs', v, rfl, rfl, q1, by rw [dps_len q2]; exact lim_lt hl, p _ F1 _ (q3 _ _ (dps_append q2 (.cons x1 .nil))) g1.f⟩
theorem set_self {i : Nat} {v : Option V} (h : σ[i]? = some v) : σ.set i v = σ := by
  apply List.ext_getElem?
  intro j
  by_cases q : i = j
  · subst q; rw [List.getElem?_set_self (List.getElem?_eq_some_iff.mp h).1, h]
  · rw [List.getElem?_set_ne q]
/-- x += e -/
theorem s_ext (i : Nat) {x : Str} {ds : List D} {p : Pos} (hN : X.N.Nodup) (hx : X.N[i]? = some x) (hl : Loc X.env.scope x) (hi : Γ[i]? = some (own K ds)) (he : PE X e (tR K c E Γ m)) (hf : X.fn x = true ∨ X.env.scope.names.lookup x = some .local := by first | exact .inl rfl | exact .inr rfl | assumption) :
    PS X (.AugAssign (.Name x p) .Add e pos) (tX K c E Γ (m.bind fun d => .opt (dExt ds d)) fun ds' => Γ.set i (own K ds')) :=
  ps_weak (ps_aug hN hx hl he (ti := rExt2) iop_ext hf) fun D σ H ⟨F, o, r⟩ => by
    obtain ⟨a, vs, h1, h2, t2, n2⟩ := o.own_at hi
    refine ⟨_, h1, F, o, m.mono _ _ _ _ (fun d p v F1 H1 o1 g1 x1 => ?_) (fun _ z => z) r⟩
    obtain ⟨es, hes, p⟩ := WP.opt_run p
    unfold dExt at hes
    split at hes
    · split at hes <;> cases hes
      rename_i hl
      obtain ⟨b, ws, rfl, k1, k2⟩ := x1.list o1.bs.fh
      obtain ⟨a', vs', q0, q1, q2, q3⟩ := o1.write (ds' := ds) hi h1
      cases q0
      refine ⟨a, b, vs', ws, rfl, rfl, q1, k1, by rw [dps_len q2, dps_len k2]; exact lim_le hl, ?_⟩
      show D.nx (σ.set i (some (.ref a))) _
      rw [set_self h1]
      exact p _ F1 _ (q3 _ _ (dps_append q2 k2)) g1.f
    · cases hes
theorem dps_set {v : V} {d : D} (r : Rp K F v d) : ∀ {vs : List V} {ds : List D} (j : Nat), RpAll K F vs ds → RpAll K F (vs.set j v) (ds.set j d)
  | _, _, _, .nil => .nil
  | _, _, 0, .cons _ t => .cons r t
  | _, _, j + 1, .cons h t => .cons h (dps_set r j t)
theorem dSet_rp {ds ds' : List D} {vs : List V} {v : V} {d k : D} (t : RpAll K F vs ds) (r : Rp K F v d) (h : dSet ds d k = some ds') : ∃ i j, k = .int i ∧ ixN vs.length i = some j ∧ RpAll K F (vs.set j v) ds' := by
  unfold dSet at h
  split at h
  · rename_i i
    rw [← dps_len t] at h
    cases e : ixN vs.length i with
    | none => rw [e] at h; cases h
    | some j =>
      rw [e] at h
      cases h
      exact ⟨i, j, rfl, e, dps_set r j t⟩
  · cases h
/-- x[k], x[j] = (a, b) -/
theorem s_set2 (i : Nat) {x : Str} {ds : List D} {k j : Expr} {p1 p2 q1 q2 pt pt2 : Pos} {kt k2 : Nat} (hc : X.calm = true) (hN : X.N[i]? = some x) (hv : Vis X.env.scope x) (hi : Γ[i]? = some (own K ds)) (ha : PL X K c E Γ es ms)
    (hk : ∀ ds', PE X k (tW K c E (Γ.set i (own K ds')) ma)) (hj : ∀ ds', PE X j (tW K c E (Γ.set i (own K ds')) mb)) (hl : Nat.ble es.length 1000 = true := by rfl) (hd : (x == ("__debug__" : Str)) = false := by decide) (hcd : (x == ("__classdict__" : Str)) = false := by decide)
    (hsw : swapsWithSole [.Tuple [.Subscript (.Name x p1) k q1, .Subscript (.Name x p2) j q2] kt pt] (.Tuple es k2 pt2) pos.line X.env = pure false := by rfl) (hw : swappedStores [.Tuple [.Subscript (.Name x p1) k q1, .Subscript (.Name x p2) j q2] kt pt] (.Tuple es k2 pt2) X.env = pure none := by rfl)
    (h1 : (assignEach [.Tuple [.Subscript (.Name x p1) k q1, .Subscript (.Name x p2) j q2] kt pt] X.env).map (·.2) = [assign (.Tuple [.Subscript (.Name x p1) k q1, .Subscript (.Name x p2) j q2] kt pt) X.env] := by rfl)
    (hn : (assignEach [.Subscript (.Name x p1) k q1, .Subscript (.Name x p2) j q2] X.env).length = 2 := by rfl) (hst : (assignEach [.Subscript (.Name x p1) k q1, .Subscript (.Name x p2) j q2] X.env).findIdx? (·.1) = none := by rfl)
    (hs1 : (assignEach (.Subscript (.Name x p1) k q1 :: [.Subscript (.Name x p2) j q2]) X.env).map (·.2) = assign (.Subscript (.Name x p1) k q1) X.env :: (assignEach [.Subscript (.Name x p2) j q2] X.env).map (·.2) := by rfl)
    (hs2 : (assignEach (.Subscript (.Name x p2) j q2 :: []) X.env).map (·.2) = assign (.Subscript (.Name x p2) j q2) X.env :: (assignEach [] X.env).map (·.2) := by rfl)
    (ha1 : ∀ v, assign (.Subscript (.Name x p1) k q1) X.env v = (do
      let ov ← holding [v] (eval (.Name x p1) X.env)
      let iv ← holding [v, ov] (eval k X.env)
      standAt q1
      holding [v, ov, iv] (setItem ov iv v)
      release [v, ov, iv] []) := by intro _; rfl)
    (ha2 : ∀ v, assign (.Subscript (.Name x p2) j q2) X.env v = (do
      let ov ← holding [v] (eval (.Name x p2) X.env)
      let iv ← holding [v, ov] (eval j X.env)
      standAt q2
      holding [v, ov, iv] (setItem ov iv v)
      release [v, ov, iv] []) := by intro _; rfl) :
    PS X (.Assign [.Tuple [.Subscript (.Name x p1) k q1, .Subscript (.Name x p2) j q2] kt pt] (.Tuple es k2 pt2) pos)
      (tX K c E Γ (ms.bind fun vs => (WP.opt (dPair (.tuple vs))).bind fun p => ma.bind fun k => (WP.opt (dSet ds p.1 k)).bind fun ds => mb.bind fun j => .opt (dSet ds p.2 j)) fun ds' => Γ.set i (own K ds')) :=
  ps_weak (ps_asg (pe_tup ha.pa) (pg_tup hc (pgs_cons (pg_sub (pe_var hN hv hd hcd) (pe_ex hk) set_list ha1) (pgs_cons (pg_sub (pe_var hN hv hd hcd) (pe_ex hj) set_list ha2) pgs_nil hs2) hs1) hn hst) hsw hw h1) fun D σ H ⟨F, o, r⟩ => by
    refine ⟨F, o, ms.mono _ _ _ _ (fun vs ⟨l, r⟩ us F1 H1 o1 g1 x1 => ⟨by rw [dps_len x1, l]; exact lim_le (Nat.le_trans (Nat.le_of_ble_eq_true hl) (by decide)), fun T hT => ?_⟩) (fun _ z => z) (ha.ln _ _ r)⟩
    obtain ⟨p, hp, r⟩ := WP.opt_run r
    have hp' := dPair_some hp
    cases hp'
    have e1 : Ex F1 (upd F1 T (.tup us)) := Evl.Ex.new (ex_none o1.bs.fh hT)
    have o2 : Ok K c (upd F1 T (.tup us)) (upd H1 T (.tup us)) σ Γ := o1.alloc hT
    have x2 := dps_mono e1 x1
    obtain ⟨u1, u2, rfl, y1, y2⟩ : ∃ u1 u2, us = [u1, u2] ∧ Rp K (upd F1 T (.tup us)) u1 p.1 ∧ Rp K (upd F1 T (.tup us)) u2 p.2 := by
      cases x2 with
      | cons a t => cases t with
        | cons b t => cases t; exact ⟨_, _, rfl, a, b⟩
    refine ⟨T, [u1, u2], rfl, .inl (.inl upd_same), rfl, u1, [u2], rfl, ?_⟩
    obtain ⟨a, vs0, w1, w2, w3, w4⟩ := o2.own_at hi
    have e0 : Γ.set i (own K ds) = Γ := by
      apply List.ext_getElem?
      intro n
      by_cases q : i = n
      · subst q; rw [List.getElem?_set_self (List.getElem?_eq_some_iff.mp hi).1, hi]
      · rw [List.getElem?_set_ne q]
    refine ⟨_, w1, ds, _, by rw [e0]; exact o2, ma.mono _ _ _ _ (fun kd r v F3 H3 o3 g3 x3 => ?_) (fun _ z => z) r⟩
    obtain ⟨ds1, hs, r1⟩ := WP.opt_run r
    rw [e0] at o3
    obtain ⟨a', vs3, q0, q1, q2, q3⟩ := o3.write (ds' := ds) hi w1
    cases q0
    obtain ⟨ki, kj, rfl, f1, f2⟩ := dSet_rp q2 (dp_mono g3.f y1) hs
    cases x3
    refine ⟨a, vs3, ki, kj, rfl, rfl, q1, f1, u2, [], rfl, ?_⟩
    have o4 := q3 _ _ f2
    refine ⟨_, w1, ds1, F3, o4, mb.mono _ _ _ _ (fun jd r2 v F5 H5 o5 g5 x5 => ?_) (fun _ z => z) r1⟩
    obtain ⟨ds2, hs2, r3⟩ := WP.opt_run r2
    have hi5 : (Γ.set i (own K ds1))[i]? = some (own K ds1) := List.getElem?_set_self (List.getElem?_eq_some_iff.mp hi).1
    obtain ⟨a', vs5, q0, q1, q2, q3⟩ := o5.write (ds' := ds1) hi5 w1
    cases q0
    obtain ⟨ji, jj, rfl, f1, f2⟩ := dSet_rp q2 (dp_mono g5.f (dp_mono g3.f y2)) hs2
    cases x5
    refine ⟨a, vs5, ji, jj, rfl, rfl, q1, f1, rfl, ?_⟩
    refine r3 σ F5 _ ?_ (exT g1.f (exT e1 (exT g3.f g5.f)))
    have := q3 _ _ f2
    rw [List.set_set] at this
    exact this
/-- the list's item at a place -/
def rGetL (W : PySem.W.Frag) : V → V → Hp → VK → Prop := fun x y H Q => ∃ p xs i v, x = .ref p ∧ y = .int i ∧ SqL W H p xs ∧ 0 ≤ i ∧ xs[i.toNat]? = some v ∧ Q v H
theorem get_list : PGet X (rGetL X.K) := by
  intro pins s σ H o i ov iv Q I r1 r2 h
  obtain ⟨p, xs, k, v, rfl, rfl, hq, h0, hx, q⟩ := h
  cases r1
  obtain ⟨t, rfl⟩ := r2
  obtain ⟨its, r, pl, hz⟩ := I.list hq
  obtain ⟨w, ew, rw'⟩ := r.get hx
  have hn := line63
  have hl := (List.getElem?_eq_some_iff.mp hx).1
  exact wpAny_getItem_list pl.isList h0 (by omega) (by simpa using ew) ⟨v, H, I, rw', q⟩
def dGetN (ds : List D) : D → Option D
  | .int i => if 0 ≤ i then ds[i.toNat]? else none
  | _ => none
/-- x[k] += e, ints -/
theorem s_augI (i : Nat) {x : Str} {ds : List D} {k : Expr} {p q : Pos} (hN : X.N[i]? = some x) (hv : Vis X.env.scope x) (hi : Γ[i]? = some (own K ds)) (hk : PE X k (tW K c E Γ ma)) (he : PE X e (tW K c E Γ mb)) (hd : (x == ("__debug__" : Str)) = false := by decide) (hcd : (x == ("__classdict__" : Str)) = false := by decide)
    (ha : ∀ ov iv new, augStore k ov iv new = (do holding [new, ov, iv] (setItem ov iv new); release [new, ov, iv] []; pure .next) := by intros; rfl) :
    PS X (.AugAssign (.Subscript (.Name x p) k q) .Add e pos) (tX K c E Γ (ma.bind fun k => (WP.opt (dGetN ds k)).bind fun old => mb.bind fun d => (WP.opt (dI2 (fun i j => some (.int (i + j))) old d)).bind fun z => .opt (dSet ds z k)) fun ds' => Γ.set i (own K ds')) :=
  ps_weak (ps_augS (pe_var hN hv hd hcd) hk get_list he ip_add set_list ha) fun D σ H ⟨F, o, r⟩ => by
    obtain ⟨a, vs, w1, w2, w3, w4⟩ := o.own_at hi
    refine ⟨_, w1, F, o, ma.mono _ _ _ _ (fun kd r v F1 H1 o1 g1 x1 => ?_) (fun _ z => z) r⟩
    obtain ⟨old, hold, r1⟩ := WP.opt_run r
    unfold dGetN at hold
    split at hold
    · split at hold
      · rename_i kk h0
        cases x1
        have h2 := g1.h a _ w2 w4
        obtain ⟨vo, f1, f2⟩ := dps_at (dps_mono g1.f w3) hold
        refine ⟨a, vs, kk, vo, rfl, rfl, .inl (.inl h2), h0, f1, F1, o1, mb.mono _ _ _ _ (fun d r2 v F3 H3 o3 g3 x3 => ?_) (fun _ z => z) r1⟩
        obtain ⟨z, hz, r3⟩ := WP.opt_run r2
        cases old <;> cases d <;> simp only [dI2] at hz <;> try cases hz
        cases f2
        cases x3
        obtain ⟨ds2, hs2, r4⟩ := WP.opt_run r3
        obtain ⟨a', vs5, q0, q1, q2, q3⟩ := o3.write (ds' := ds) hi w1
        cases q0
        obtain ⟨ji, jj, e, f1, f2⟩ := dSet_rp q2 (.int _) hs2
        cases e
        exact ⟨_, _, rfl, rfl, a, vs5, _, jj, rfl, rfl, q1, f1, r4 σ F3 _ (q3 _ _ f2) (exT g1.f g3.f)⟩
      · cases hold
    · cases hold
/-! methods that read -/
theorem idxOf_spec {x : D} : ∀ {ds : List D} {j : Nat}, idxOf x ds = some j → ∃ z, ds[j]? = some z ∧ PyData.eqv z x = true ∧ ∀ (m : Nat) (z' : D), m < j → ds[m]? = some z' → PyData.eqv z' x = false
  | [], _, h => by cases h
  | d :: ds, j, h => by
    unfold idxOf at h
    split at h
    · cases h
      exact ⟨d, rfl, by assumption, fun m z' hm _ => absurd hm (Nat.not_lt_zero m)⟩
    · rename_i hd
      cases e : idxOf x ds with
      | none => rw [e] at h; cases h
      | some k =>
        rw [e] at h
        cases h
        obtain ⟨z, h1, h2, h3⟩ := idxOf_spec e
        refine ⟨z, h1, h2, fun m z' hm hz => ?_⟩
        cases m with
        | zero => cases hz; simpa using hd
        | succ m => exact h3 m z' (Nat.lt_of_succ_lt_succ hm) hz
def MtD (K : Nat → Addr) (r : V → List V → Hp → VK → Prop) (f : List D → D → Option D) : Prop := ∀ (c : C) (Γ : List Sl) (σ : L2.St) (F H : Hp) (x y : V) (ds : List D) (e z : D) (Q : VK), Ok K c F H σ Γ → RdOk K c F H x (.list ds) → RdOk K c F H y e → f ds e = some z →
  (∀ v F' H', Ok K c F' H' σ Γ → Gr c F H F' H' → Rp K F' v z → Q v H') → r x [y] H Q
/-- o.m(e) of a list -/
theorem e_mtL {o : Expr} {mo : WP D} {name : Str} {id : String} {apos cpos : Pos} {r : V → List V → Hp → VK → Prop} {f : List D → D → Option D} (slot : Slot "list" name id) (hty : typeOf (.builtin id) = pure (.type "method_descriptor")) (hm : MtR X id r) (hr : MtD K r f)
    (ho : PE X o (tR K c E Γ mo)) (he : PE X e (tR K c E Γ m))
    (hbase : attributeBase o name X.env (eval o X.env) = eval o X.env := by rfl)
    (hfew : ((backTo cpos (starEach (e :: []) X.env)).all (fun x => !x.1) && (backToKw cpos (keywordEach [] X.env)).all (fun x => x.1.isSome)
      && decide ((e :: []).length + ([] : List Keyword).length + (if ([] : List Keyword).isEmpty then 0 else 1) < 30)) = true := by rfl)
    (hline : (apos.endLine == cpos.line) = true := by rfl) (hs : starEach (e :: []) X.env = (false, eval e X.env) :: starEach [] X.env := by rfl) (hplain : (backTo cpos (starEach [] X.env)).any (·.1) = false := by rfl) :
    PE X (.Call (.Attribute o name apos) [e] [] cpos) (tW K c E Γ (mo.bind fun l => (WP.opt (dList l)).bind fun ds => m.bind fun d => .opt (f ds d))) :=
  pe_weak (pe_bm PySem.F.plainAttrs_list slot hty hm ho (pa_cons he pa_nil hs) hbase hfew hline hs hplain) fun σ H Q ⟨F, o, r⟩ => by
    refine ⟨F, o, mo.mono _ _ _ _ (fun l r v F1 H1 o1 g1 x1 => ?_) (fun _ z => z) r⟩
    obtain ⟨ds, hd, r1⟩ := WP.opt_run r
    cases dList_some hd
    have x1' := x1
    obtain ⟨a, vs, rfl, h1, t1⟩ := x1.list o1.bs.fh
    refine ⟨.inl ⟨rfl, vs, .inl (.inl h1)⟩, F1, o1, m.mono _ _ _ _ (fun d r2 w F2 H2 o2 g2 x2 => ?_) (fun _ z => z) r1⟩
    obtain ⟨z, hz, r3⟩ := WP.opt_run r2
    exact hr c Γ σ F2 H2 (.ref a) w ds d z Q o2 (x1'.mono g2) x2 hz fun v F' H' o' g' x' => r3 v F' H' o' ((g1.trans g2).trans g') x'
theorem md_index {W : PySem.W.Frag} : MtD K (rIndexD W) dIndex := by
  intro c Γ σ F H x y ds e z Q o hx hy hf q
  unfold dIndex at hf
  split at hf
  · rename_i h
    cases e1 : idxOf e ds with
    | none => rw [e1] at hf; cases hf
    | some j =>
      rw [e1] at hf
      cases hf
      obtain ⟨z, h1, h2, h3⟩ := idxOf_spec e1
      have hx' := hx
      obtain ⟨a, vs, rfl, k1, k2⟩ := hx.list o.bs.fh
      exact ⟨a, y, e, ds, j, z, rfl, rfl, hx'.dp o.bs.fh h.1, hy.dp o.bs.fh h.2, h.1, h.2, h1, h2, h3, q _ F H o .refl (.int _)⟩
  · cases hf
theorem md_count {W : PySem.W.Frag} : MtD K (rCntI W) dCount := by
  intro c Γ σ F H x y ds e z Q o hx hy hf q
  cases e <;> simp only [dCount] at hf <;> try cases hf
  rename_i k
  cases e1 : dInts ds with
  | none => rw [e1] at hf; cases hf
  | some ns =>
    rw [e1] at hf
    cases hf
    obtain ⟨a, vs, rfl, k1, k2⟩ := hx.list o.bs.fh
    cases ints_rp k2 e1
    exact ⟨a, ns, k, rfl, by rw [hy.int], .inl (.inl k1), q _ F H o .refl (.int _)⟩
/-! slices -/
def cutD {α : Type} (xs : List α) (lo hi : Option Int) : List α := (xs.drop (HT.sIx xs.length 0 lo)).take (HT.sIx xs.length xs.length hi - HT.sIx xs.length 0 lo)
def dCut (lo hi : Option Int) : D → Option D
  | .list ds => some (.list (cutD ds lo hi))
  | .str z => if z.length ≤ LIM then some (.str (cutS z lo hi)) else none
  | _ => none
def dInt : D → Option Int
  | .int i => some i
  | _ => none
theorem dps_take : ∀ {vs : List V} {ds : List D} (n : Nat), RpAll K F vs ds → RpAll K F (vs.take n) (ds.take n)
  | _, _, 0, _ => .nil
  | _, _, _ + 1, .nil => .nil
  | _, _, n + 1, .cons h t => .cons h (dps_take n t)
theorem dps_drop : ∀ {vs : List V} {ds : List D} (n : Nat), RpAll K F vs ds → RpAll K F (vs.drop n) (ds.drop n)
  | _, _, 0, t => t
  | _, _, _ + 1, .nil => .nil
  | _, _, n + 1, .cons _ t => dps_drop n t
theorem dps_rev : ∀ {vs : List V} {ds : List D}, RpAll K F vs ds → RpAll K F vs.reverse ds.reverse
  | _, _, .nil => .nil
  | _, _, .cons h t => by
    rw [List.reverse_cons, List.reverse_cons]
    exact dps_append (dps_rev t) (.cons h .nil)
def rSlAll (W : PySem.W.Frag) : V → Option Int → Option Int → Hp → VK → Prop := fun x lo hi H Q => rSlL W x lo hi H Q ∨ rSlS x lo hi H Q
theorem sl_all : SlR X (rSlAll X.K) := sl_list.or sl_str
theorem sd_all {W : PySem.W.Frag} {lo hi : Option Int} {x : V} {d z : D} {Q : VK} (o : Ok K c F H σ Γ) (hx : RdOk K c F H x d) (hf : dCut lo hi d = some z) (q : ∀ v F' H', Ok K c F' H' σ Γ → Gr c F H F' H' → Rp K F' v z → Q v H') : rSlAll W x lo hi H Q := by
  cases d <;> simp only [dCut] at hf <;> try cases hf
  · split at hf <;> cases hf
    rename_i hl
    exact .inr ⟨_, hx.str, lim_le hl, q _ F H o .refl (.str _)⟩
  · obtain ⟨a, vs, rfl, k1, k2⟩ := hx.list o.bs.fh
    refine .inl ⟨a, vs, rfl, .inl (.inl k1), fun p hp => new_lst o hp ?_ q⟩
    unfold cutV cutD
    rw [dps_len k2]
    exact dps_take _ (dps_drop _ k2)
variable {lo hi : Expr} {ml mh : WP D} {p2 : Pos}
/-- x[lo:hi] -/
theorem e_cut (h : PE X e (tR K c E Γ m)) (hl : PE X lo (tW K c E Γ ml)) (hh : PE X hi (tW K c E Γ mh)) : PE X (.Subscript e (.Slice (some lo) (some hi) none p2) pos) (tW K c E Γ (m.bind fun d => ml.bind fun l => (WP.opt (dInt l)).bind fun l => mh.bind fun h => (WP.opt (dInt h)).bind fun h => .opt (dCut (some l) (some h) d))) :=
  pe_weak (pe_slice sl_all h (po_some hl) (po_some hh)) fun σ H Q ⟨F, o, r⟩ => by
    refine ⟨F, o, m.mono _ _ _ _ (fun d r v F1 H1 o1 g1 x1 => ?_) (fun _ z => z) r⟩
    refine ⟨F1, o1, ml.mono _ _ _ _ (fun l r v2 F2 H2 o2 g2 x2 => ?_) (fun _ z => z) r⟩
    obtain ⟨i, hi, r⟩ := WP.opt_run r
    cases l <;> simp only [dInt] at hi <;> try cases hi
    cases x2
    refine ⟨i, rfl, F2, o2, mh.mono _ _ _ _ (fun l r v3 F3 H3 o3 g3 x3 => ?_) (fun _ z => z) r⟩
    obtain ⟨j, hj, r⟩ := WP.opt_run r
    cases l <;> simp only [dInt] at hj <;> try cases hj
    cases x3
    obtain ⟨z, hz, r⟩ := WP.opt_run r
    exact ⟨j, rfl, sd_all o3 ((x1.mono g2).mono g3) hz fun v F' H' o' g' x' => r v F' H' o' (((g1.trans g2).trans g3).trans g') x'⟩
/-- x[lo:] -/
theorem e_cutL (h : PE X e (tR K c E Γ m)) (hl : PE X lo (tW K c E Γ ml)) : PE X (.Subscript e (.Slice (some lo) none none p2) pos) (tW K c E Γ (m.bind fun d => ml.bind fun l => (WP.opt (dInt l)).bind fun l => .opt (dCut (some l) none d))) :=
  pe_weak (pe_slice sl_all h (po_some hl) po_none) fun σ H Q ⟨F, o, r⟩ => by
    refine ⟨F, o, m.mono _ _ _ _ (fun d r v F1 H1 o1 g1 x1 => ?_) (fun _ z => z) r⟩
    refine ⟨F1, o1, ml.mono _ _ _ _ (fun l r v2 F2 H2 o2 g2 x2 => ?_) (fun _ z => z) r⟩
    obtain ⟨i, hi, r⟩ := WP.opt_run r
    cases l <;> simp only [dInt] at hi <;> try cases hi
    cases x2
    obtain ⟨z, hz, r⟩ := WP.opt_run r
    exact ⟨i, rfl, sd_all o2 (x1.mono g2) hz fun v F' H' o' g' x' => r v F' H' o' ((g1.trans g2).trans g') x'⟩
/-- x[:hi] -/
theorem e_cutH (h : PE X e (tR K c E Γ m)) (hl : PE X hi (tW K c E Γ mh)) : PE X (.Subscript e (.Slice none (some hi) none p2) pos) (tW K c E Γ (m.bind fun d => mh.bind fun l => (WP.opt (dInt l)).bind fun l => .opt (dCut none (some l) d))) :=
  pe_weak (pe_slice sl_all h po_none (po_some hl)) fun σ H Q ⟨F, o, r⟩ => by
    refine ⟨F, o, m.mono _ _ _ _ (fun d r v F1 H1 o1 g1 x1 => ?_) (fun _ z => z) r⟩
    refine ⟨F1, o1, mh.mono _ _ _ _ (fun l r v2 F2 H2 o2 g2 x2 => ?_) (fun _ z => z) r⟩
    obtain ⟨i, hi, r⟩ := WP.opt_run r
    cases l <;> simp only [dInt] at hi <;> try cases hi
    cases x2
    obtain ⟨z, hz, r⟩ := WP.opt_run r
    exact ⟨i, rfl, sd_all o2 (x1.mono g2) hz fun v F' H' o' g' x' => r v F' H' o' ((g1.trans g2).trans g') x'⟩
/-- x[::-1] -/
theorem e_rev {k : Nat} {p1 p3 : Pos} (h : PE X e (tR K c E Γ m)) : PE X (.Subscript e (.Slice none none (some (.UnaryOp .USub (.Constant (.int 1) k p1) p2)) p3) pos) (tW K c E Γ (m.bind fun d => (WP.opt (dList d)).bind fun ds => .ret (.list ds.reverse))) :=
  pe_weak (pe_revL h) fun σ H Q ⟨F, o, r⟩ => by
    refine ⟨F, o, m.mono _ _ _ _ (fun d r v F1 H1 o1 g1 x1 => ?_) (fun _ z => z) r⟩
    obtain ⟨ds, hd, r1⟩ := WP.opt_run r
    cases dList_some hd
    obtain ⟨a, vs, rfl, k1, k2⟩ := x1.list o1.bs.fh
    exact ⟨a, vs, rfl, .inl (.inl k1), fun p hp => new_lst o1 hp (dps_rev k2) fun v F' H' o' g' x' => r1 v F' H' o' (g1.trans g') x'⟩
theorem e_neg {i : Int} {k : Nat} {p1 : Pos} : PE X (.UnaryOp .USub (.Constant (.int i) k p1) pos) (tW K c E Γ (.ret (.int (-i)))) := pe_weak (pe_un un_neg pe_int) fun σ H Q ⟨F, o, r⟩ => ⟨i, rfl, r _ F H o .refl (.int _)⟩
end
end GA
namespace GA
open PySem PySem.Spec PyProof.Rows L2
/-! promises -/
def spW (K : Nat → Addr) (n : Nat) (f : List D → WP D) : Sp := fun vs H Q E => ∃ F ds, Ex F H ∧ RpAll K F vs ds ∧ ds.length = n ∧
  (f ds).run (fun d => ∀ v F' H', Ex H H' → Ex F F' → Ex F' H' → (∀ a o, F' a = some o → F a = some o ∨ H a = none) → Rp K F' v d → Q v H') (fun k => ∀ H', Ex H H' → E (.ref (K k)) none H')
/-- the draws at a, their numbers at b -/
def DrOk (H : Hp) (a b : Addr) : Prop := a ≠ b ∧ ∃ (ns : List Int) (n : Int), H a = some (.lst [.ref b, .int n]) ∧ H b = some (.lst (ns.map V.int)) ∧ ns ≠ []
def spD (K : Nat → Addr) (n : Nat) (f : List D → WP D) : Sp := fun vs H Q E => ∃ F ds a b vs', vs = .ref a :: vs' ∧ DrOk H a b ∧ F a = none ∧ F b = none ∧ Ex F H ∧ RpAll K F vs' ds ∧ ds.length = n ∧
  (f ds).run (fun d => ∀ v F' H', (∀ p o, H p = some o → p ≠ a → p ≠ b → H' p = some o) → DrOk H' a b → Ex F F' → Ex F' H' → (∀ p o, F' p = some o → F p = some o ∨ H p = none) → Rp K F' v d → Q v H')
    (fun k => ∀ H', (∀ p o, H p = some o → p ≠ a → p ≠ b → H' p = some o) → DrOk H' a b → E (.ref (K k)) none H')
structure IsDr (c : C) (a b : Addr) : Prop where
  ex : ∀ p, c.ex p ↔ p = a ∨ p = b
  ri : ∀ H, c.rinv H ↔ DrOk H a b
section
variable {P : Program} {w : World} {W : PySem.W.Frag} {mg : Str → Option Value} {base : Heap} {K : Nat → Addr}
def slots (N : List Str) (ds : List D) : List Sl := ds.map .imm ++ List.replicate (N.length - ds.length) .non
theorem start_ok {N : List Str} {vs : List V} {ds : List D} {F H : Hp} {c : C} (b : Bs c F H) (t : RpAll K F vs ds) (hn : ds.length ≤ N.length) : Ok K c F H (start N vs) (slots N ds) := by
  have hl := dps_len t
  refine ⟨fun _ => [], b, ?_, fun i s h => ?_, (fun i a h => by cases h), (fun i j a h => by cases h)⟩
  · unfold L2.start slots
    simp only [List.length_append, List.length_map, List.length_replicate]
    omega
  · unfold slots at h
    unfold L2.start
    by_cases hi : i < ds.length
    · rw [List.getElem?_append_left (by simpa using hi), List.getElem?_map] at h
      rw [List.getElem?_append_left (by simp; omega), List.getElem?_map]
      cases e : ds[i]? with
      | none => rw [e] at h; cases h
      | some d =>
        rw [e] at h
        cases h
        obtain ⟨v, h1, h2⟩ := dps_at t e
        exact ⟨some v, by rw [h1]; rfl, v, rfl, h2⟩
    · rw [List.getElem?_append_right (by simpa using hi)] at h
      rw [List.getElem?_append_right (by simp; omega)]
      rw [List.getElem?_replicate] at h ⊢
      simp only [List.length_map] at h ⊢
      rw [hl]
      split at h
      · cases h
        rename_i hh
        refine ⟨none, by rw [if_pos hh], trivial⟩
      · cases h
/-- the context of a def without draws -/
def c0 (F H : Hp) : C := ⟨F, H, fun _ => False, fun _ => True, fun _ _ _ _ => trivial⟩
theorem c0_bs {F H : Hp} (e : Ex F H) : Bs (c0 F H) F H := ⟨e, exR F, fun _ _ h _ => h, fun _ _ h => .inl h, fun _ h => h.elim, fun _ h => h.elim, fun _ h => h.elim, trivial⟩
/-- A DEF by its body -/
theorem fn_W {x qual : Str} {pa : Arguments} {bd : List Stmt} {sc : Scope} {f : Addr} {fd : FuncData} {N ps : List Str} {k : Nat} {fW : List D → WP D} (F : FunD W x qual pa bd sc [] [] f fd) (S : FnScope N ps sc)
    (hbody : ∀ (cdv : Value) (A : Around) (outer : List Env) (s : Shared) (H : Hp) (E : XK) (c : C) (ds : List D), Room k (A.deeper (envOfC qual sc s.heap.objs.size f cdv)) → ds.length = ps.length →
      PSs (cxOf (CX P w) P w W mg base N qual sc f cdv A outer s H E) bd (tE K c E (slots N ds) (fW ds))) : FnOk P w W mg base (CX P w) (k + 1) f fd ps (spW K ps.length fW) := by
  refine F.ok S (fun vs H Q E h => ?_) (fun cdv A outer s H vs Q E hr h => ?_)
  · obtain ⟨F, ds, _, t, e, _⟩ := h
    rw [dps_len t, e]
  · obtain ⟨F0, ds, e, t, hl, r⟩ := h
    have hn : ds.length ≤ N.length := by
      have := congrArg List.length S.pre
      rw [List.length_take] at this
      omega
    refine ⟨_, hbody cdv A outer s H E (c0 F0 H) ds hr hl, F0, start_ok (c0_bs e) t hn, (fW ds).mono _ _ _ _ (fun d p v F' H' b ef rp => ?_) (fun k p H' hp => ?_) r⟩
    · refine p v F' H' (fun a o h => b.h0 a o h fun z => z) b.f0 b.fh (fun a o h => b.nw a o h) rp
    · exact p H' fun a o h => hp.1 a o h fun z => z
/-- .. that falls off its end -/
theorem fn_S {x qual : Str} {pa : Arguments} {bd : List Stmt} {sc : Scope} {f : Addr} {fd : FuncData} {N ps : List Str} {k : Nat} {fW : List D → WP (Stp Unit)} {G : List D → Unit → List Sl} (F : FunD W x qual pa bd sc [] [] f fd) (S : FnScope N ps sc)
    (hbody : ∀ (cdv : Value) (A : Around) (outer : List Env) (s : Shared) (H : Hp) (E : XK) (c : C) (ds : List D), Room k (A.deeper (envOfC qual sc s.heap.objs.size f cdv)) → ds.length = ps.length →
      PSs (cxOf (CX P w) P w W mg base N qual sc f cdv A outer s H E) bd (tS K c E (slots N ds) (fW ds) (G ds))) : FnOk P w W mg base (CX P w) (k + 1) f fd ps (spW K ps.length fun ds => (fW ds).seqE fun _ => .ret .none) := by
  refine F.ok S (fun vs H Q E h => ?_) (fun cdv A outer s H vs Q E hr h => ?_)
  · obtain ⟨F, ds, _, t, e, _⟩ := h
    rw [dps_len t, e]
  · obtain ⟨F0, ds, e, t, hl, r⟩ := h
    have hn : ds.length ≤ N.length := by
      have := congrArg List.length S.pre
      rw [List.length_take] at this
      omega
    refine ⟨_, hbody cdv A outer s H E (c0 F0 H) ds hr hl, F0, start_ok (c0_bs e) t hn, (fW ds).mono _ _ _ _ (fun d p => ?_) (fun k p H' hp => ?_) r⟩
    · cases d with
      | nx _ =>
        refine fun σ' F' H' o ef => ?_
        have b := o.bs
        exact p .non F' H' (fun a o h => b.h0 a o h fun z => z) b.f0 b.fh (fun a o h => b.nw a o h) .non
      | rt d =>
        refine fun v F' H' b ef rp => ?_
        exact p v F' H' (fun a o h => b.h0 a o h fun z => z) b.f0 b.fh (fun a o h => b.nw a o h) rp
    · exact p H' fun a o h => hp.1 a o h fun z => z
theorem spW_eq {n : Nat} {f g : List D → WP D} {CX : CXT} {k : Nat} {fa : Addr} {fd : FuncData} {ps : List Str} (F : FnOk P w W mg base CX k fa fd ps (spW K n f)) (h : ∀ ds, ds.length = n → g ds = f ds) : FnOk P w W mg base CX k fa fd ps (spW K n g) :=
  F.imp fun vs H Q E ⟨F, ds, e, t, hl, r⟩ => ⟨F, ds, e, t, hl, by rw [← h ds hl]; exact r⟩
end
section
variable {X : Cx} {K : Nat → Addr} {c : C} {E : XK} {Γ Γ' : List Sl} {F F' H H' : Hp} {σ : L2.St} {pos : Pos} {e a b : Expr} {es : List Expr} {ms : WP (List D)} {m ma mb : WP D}
theorem e_call {CX : CXT} {k : Nat} {f : Addr} {fd : FuncData} {ps : List Str} {x : Str} {p : Pos} {fW : List D → WP D} {n : Nat} (G : FnOk X.prog X.w X.K X.mg X.base CX k f fd ps (spW K n fW)) (hr : Room k X.A) (hg : Gl X x) (hm : X.mg x = some (.ref f)) (hk : PySem.W.keepIn X.K (.ref f) = true) (hb : Binds X.K fd ps []) (hx : Passes CX X E)
    (ha : PL X K c E Γ (e :: es) ms) (hl : (e :: es).length = n := by rfl) (hdb : (x == ("__debug__" : Str)) = false := by decide) (he : starEach (e :: es) X.env = (false, eval e X.env) :: starEach es X.env := by rfl) (hpl : (backTo pos (starEach es X.env)).any (·.1) = false := by rfl) :
    PE X (.Call (.Name x p) (e :: es) [] pos) (tW K c E Γ (ms.bind fW)) :=
  pe_weak (pe_call G hr hg hm hk hb .nil hx ha.pa hdb he hpl) fun σ H Q ⟨F, o, r⟩ => by
    refine ⟨F, o, ms.mono _ _ _ _ (fun ds ⟨l, r⟩ vs F1 H1 o1 g1 x1 => ?_) (fun _ z => z) (ha.ln _ _ r)⟩
    show spW K n fW (vs ++ []) H1 Q E
    rw [List.append_nil]
    refine ⟨F1, ds, o1.bs.fh, x1, l.trans hl, (fW ds).mono _ _ _ _ (fun d p v F' H' eh ef efh nw rp => ?_) (fun k p H' eh => ?_) r⟩
    · exact p v F' H' (o1.grow eh ef efh nw) (g1.trans ⟨ef, fun a u h _ => eh a u h, fun a u h _ => nw a u h⟩) rp
    · have o2 := o1.grow eh (exR F1) (exT o1.bs.fh eh) fun a u h => .inl h
      exact p H' o2.pres
theorem e_call0 {CX : CXT} {k : Nat} {f : Addr} {fd : FuncData} {ps : List Str} {x : Str} {p : Pos} {fW : List D → WP D} (G : FnOk X.prog X.w X.K X.mg X.base CX k f fd ps (spW K 0 fW)) (hr : Room k X.A) (hg : Gl X x) (hm : X.mg x = some (.ref f)) (hk : PySem.W.keepIn X.K (.ref f) = true) (hb : Binds X.K fd ps []) (hx : Passes CX X E)
    (hdb : (x == ("__debug__" : Str)) = false := by decide) : PE X (.Call (.Name x p) [] [] pos) (tW K c E Γ (fW [])) :=
  pe_weak (pe_call0 G hr hg hm hk hb .nil hx hdb) fun σ H Q ⟨F1, o1, r⟩ => by
    show spW K 0 fW ([] ++ []) H Q E
    refine ⟨F1, [], o1.bs.fh, .nil, rfl, (fW []).mono _ _ _ _ (fun d p v F' H' eh ef efh nw rp => ?_) (fun k p H' eh => ?_) r⟩
    · exact p v F' H' (o1.grow eh ef efh nw) ⟨ef, fun a u h _ => eh a u h, fun a u h _ => nw a u h⟩ rp
    · have o2 := o1.grow eh (exR F1) (exT o1.bs.fh eh) fun a u h => .inl h
      exact p H' o2.pres
/-- f(draws, e, ..) -/
theorem e_callD {CX : CXT} {k : Nat} {f : Addr} {fd : FuncData} {ps : List Str} {x y : Str} {p p2 : Pos} {fW : List D → WP D} {n : Nat} {a b : Addr} (i : Nat) (dr : IsDr c a b) (G : FnOk X.prog X.w X.K X.mg X.base CX k f fd ps (spD K n fW)) (hr : Room k X.A) (hg : Gl X x) (hm : X.mg x = some (.ref f)) (hk : PySem.W.keepIn X.K (.ref f) = true) (hb : Binds X.K fd ps []) (hx : Passes CX X E)
    (hN : X.N[i]? = some y) (hv : Vis X.env.scope y) (hi : Γ[i]? = some (.val (.ref a))) (ha : PL X K c E Γ es ms) (hl : es.length = n := by rfl) (hd : (y == ("__debug__" : Str)) = false := by decide) (hcd : (y == ("__classdict__" : Str)) = false := by decide)
    (hdb : (x == ("__debug__" : Str)) = false := by decide) (he : starEach (.Name y p2 :: es) X.env = (false, eval (.Name y p2) X.env) :: starEach es X.env := by rfl) (hpl : (backTo pos (starEach es X.env)).any (·.1) = false := by rfl) :
    PE X (.Call (.Name x p) (.Name y p2 :: es) [] pos) (tW K c E Γ (ms.bind fW)) :=
  pe_weak (pe_call G hr hg hm hk hb .nil hx (pa_cons (pe_var hN hv hd hcd) ha.pa he) hdb he hpl) fun σ H Q ⟨F, o, r⟩ => by
    obtain ⟨π, x0⟩ := id o
    obtain ⟨ov, h1, h2⟩ := x0.sl i _ hi
    refine ⟨.ref a, h1.trans (by rw [h2]), F, o, ms.mono _ _ _ _ (fun ds ⟨l, r⟩ vs F1 H1 o1 g1 x1 => ?_) (fun _ z => z) (ha.ln _ _ r)⟩
    show spD K n fW ((.ref a :: vs) ++ []) H1 Q E
    rw [List.append_nil]
    have xa : c.ex a := (dr.ex a).mpr (.inl rfl)
    have xb : c.ex b := (dr.ex b).mpr (.inr rfl)
    have nx : ∀ p, ¬ c.ex p → p ≠ a ∧ p ≠ b := fun p h => ⟨fun e => h ((dr.ex p).mpr (.inl e)), fun e => h ((dr.ex p).mpr (.inr e))⟩
    have there : ∀ H', DrOk H' a b → ∀ p, c.ex p → H' p ≠ none := fun H' ⟨_, ns, n, k1, k2, _⟩ p hp => by
      rcases (dr.ex p).mp hp with rfl | rfl
      · rw [k1]; exact fun z => by cases z
      · rw [k2]; exact fun z => by cases z
    refine ⟨F1, ds, a, b, vs, rfl, (dr.ri H1).mp o1.bs.rv, o1.bs.fx a xa, o1.bs.fx b xb, o1.bs.fh, x1, l.trans hl, (fW ds).mono _ _ _ _ (fun d p v F' H' eh dk ef efh nw rp => ?_) (fun k p H' eh dk => ?_) r⟩
    · have eh' : ∀ p o, H1 p = some o → ¬ c.ex p → H' p = some o := fun p o h n => eh p o h (nx p n).1 (nx p n).2
      exact p v F' H' (o1.step eh' (there H' dk) ((dr.ri H').mpr dk) ef efh nw) (g1.trans ⟨ef, eh', fun a u h _ => nw a u h⟩) rp
    · have eh' : ∀ p o, H1 p = some o → ¬ c.ex p → H' p = some o := fun p o h n => eh p o h (nx p n).1 (nx p n).2
      exact p H' ⟨fun p o h n => eh' p o (o1.bs.h0 p o h n) n, there H' dk, (dr.ri H').mpr dk⟩
/-- raise X('..') -/
theorem s_raise (k : Nat) {x m : Str} {j : Nat} {p p2 p3 : Pos} {rest : List Stmt} {bmB : List Value} {B newId initId : String} (hc : X.calm = true) (tk : Takes X (fun cls d _ H => E cls d H)) (Fx : ExcBaseFacts B newId initId bmB) (q : PySem.W.excIn X.K (K k) bmB newId = true) (gC : X.mg x = some (.ref (K k))) (kC : PySem.W.keepIn X.K (.ref (K k)) = true)
    (r : Raises X (.ref (K k))) (hg : Gl X x) (hdb : (x == ("__debug__" : Str)) = false := by decide) : PSs X (.Raise (some (.Call (.Name x p) [.Constant (.str m) j p2] [] p3)) none pos :: rest) (tE K c E Γ (.lift (.err k))) :=
  pss_weak (pss_cons (ps_raise hc tk (pmk_own Fx q gC kC r hg hdb)) (pss_never (sts := rest))) fun D σ H ⟨F, o, r⟩ => r H o.pres
theorem s_drop {m : WP D} (h : PE X e (tW K c E Γ m)) (hs : swapsWith e none pos.line X.env = pure false := by rfl) : PS X (.Expr e pos) (tX K c E Γ (m.bind fun _ => .ret ()) fun _ => Γ) :=
  ps_weak (ps_expr h hs) fun D σ H ⟨F, o, r⟩ => ⟨F, o, m.mono _ _ _ _ (fun d p v F' H' o' g x => p σ F' H' o' g.f) (fun _ z => z) r⟩
end
end GA
namespace GA
open PySem PySem.Spec PyProof.Rows L2
section
variable {X : Cx} {K : Nat → Addr} {c : C} {E : XK} {Γ Γ' : List Sl} {F F' H H' : Hp} {σ : L2.St} {pos : Pos} {e a b d : Expr} {es : List Expr} {ms : WP (List D)} {m ma mb md : WP D} {A rest : List Stmt} {α : Type}
theorem e_gint {x : Str} {i : Int} (hg : Gl X x) (hm : ∃ t, X.mg x = some (.int i t)) (hd : (x == ("__debug__" : Str)) = false := by decide) : PE X (.Name x pos) (tW K c E Γ (.ret (.int i))) := by
  obtain ⟨t, hm⟩ := hm
  exact pe_weak (pe_glob (v := .int i) hg hm ⟨t, rfl⟩ hd) fun σ H Q ⟨F, o, r⟩ => r _ F H o .refl (.int i)
theorem e_gstr {x i : Str} (hg : Gl X x) (hm : ∃ t, X.mg x = some (.str i t)) (hd : (x == ("__debug__" : Str)) = false := by decide) : PE X (.Name x pos) (tW K c E Γ (.ret (.str i))) := by
  obtain ⟨t, hm⟩ := hm
  exact pe_weak (pe_glob (v := .str i) hg hm ⟨t, rfl⟩ hd) fun σ H Q ⟨F, o, r⟩ => r _ F H o .refl (.str i)
theorem e_chain {op op' : CmpOp} {r r' : R2} {f g : D → D → Option D} (ho : OpR X (compareOp op) r) (ho' : OpR X (compareOp op') r') (hr : OpD K r f) (hr' : OpD K r' g) (ha : PE X a (tR K c E Γ ma)) (hb : PE X b (tR K c E Γ mb)) (hd : PE X d (tR K c E Γ md)) (hm : lastMarks [op, op'] [b, d] = false := by with_unfolding_all rfl) :
    PE X (.Compare a [op, op'] [b, d] pos) (tW K c E Γ (ma.bind fun x => mb.bind fun y => (WP.opt (f x y)).bind fun z => (WP.opt (dBool z)).bind fun k => if k = true then md.bind fun w => .opt (g y w) else .ret (.bool false))) :=
  pe_weak (pe_chain ho ho' ha hb hd hm) fun σ H Q ⟨F, o, r⟩ => by
    refine ⟨F, o, ma.mono _ _ _ _ (fun x r v F1 H1 o1 g1 x1 => ?_) (fun _ z => z) r⟩
    refine ⟨F1, o1, mb.mono _ _ _ _ (fun y r w F2 H2 o2 g2 x2 => ?_) (fun _ z => z) r⟩
    obtain ⟨z, hz, r⟩ := WP.opt_run r
    refine hr c Γ σ F2 H2 v w x y z _ o2 (x1.mono g2) x2 hz fun u F3 H3 o3 g3 x3 => ?_
    obtain ⟨k, hk, r⟩ := WP.opt_run r
    cases z <;> simp [dBool] at hk
    subst hk
    cases x3
    refine ⟨_, rfl, ?_⟩
    rename_i k _
    cases k with
    | false => exact r _ F3 H3 o3 ((g1.trans g2).trans g3) (.bl false)
    | true =>
      refine ⟨F3, o3, md.mono _ _ _ _ (fun q r w F4 H4 o4 g4 x4 => ?_) (fun _ z => z) r⟩
      obtain ⟨z, hz, r⟩ := WP.opt_run r
      exact hr' c Γ σ F4 H4 _ _ y q z Q o4 ((x2.mono g3).mono g4) x4 hz fun v F' H' o' g' x' => r v F' H' o' ((((g1.trans g2).trans g3).trans g4).trans g') x'
theorem q_chain {op op' : CmpOp} {r r' : R2} {f g : D → D → Option D} (ho : OpR X (compareOp op) r) (ho' : OpR X (compareOp op') r') (hr : OpD K r f) (hr' : OpD K r' g) (ha : PE X a (tR K c E Γ ma)) (hb : PE X b (tR K c E Γ mb)) (hd : PE X d (tR K c E Γ md)) (hm : lastMarks [op, op'] [b, d] = false := by with_unfolding_all rfl) :
    PT X (.Compare a [op, op'] [b, d] pos) (tT K c E Γ ((ma.bind fun x => mb.bind fun y => (WP.opt (f x y)).bind fun z => (WP.opt (dBool z)).bind fun k => if k = true then md.bind fun w => .opt (g y w) else .ret (.bool false)).bind fun x => .opt (dBool x))) :=
  pt_weak (pt_chain ho ho' ha hb hd hm) fun σ H Q ⟨F, o, r⟩ => by
    refine ⟨F, o, ma.mono _ _ _ _ (fun x r v F1 H1 o1 g1 x1 => ?_) (fun _ z => z) r⟩
    refine ⟨F1, o1, mb.mono _ _ _ _ (fun y r w F2 H2 o2 g2 x2 => ?_) (fun _ z => z) r⟩
    obtain ⟨z, hz, r⟩ := WP.opt_run r
    refine hr c Γ σ F2 H2 v w x y z _ o2 (x1.mono g2) x2 hz fun u F3 H3 o3 g3 x3 => ?_
    obtain ⟨k, hk, r⟩ := WP.opt_run r
    cases z <;> simp [dBool] at hk
    subst hk
    cases x3
    refine ⟨_, rfl, ?_⟩
    rename_i k _
    cases k with
    | false => exact ⟨false, rfl, (show ∀ F' H', Ok K c F' H' σ Γ → Gr c F H F' H' → Q false H' from r) F3 H3 o3 ((g1.trans g2).trans g3)⟩
    | true =>
      refine ⟨F3, o3, md.mono _ _ _ _ (fun q r w F4 H4 o4 g4 x4 => ?_) (fun _ z => z) r⟩
      obtain ⟨z, hz, r⟩ := WP.opt_run r
      refine hr' c Γ σ F4 H4 _ _ y q z _ o4 ((x2.mono g3).mono g4) x4 hz fun v F' H' o' g' x' => ?_
      obtain ⟨k2, hk2, r⟩ := WP.opt_run r
      cases z <;> simp [dBool] at hk2
      subst hk2
      cases x'
      exact ⟨_, rfl, r F' H' o' ((((g1.trans g2).trans g3).trans g4).trans g')⟩
theorem tE_eq {m m' : WP D} (h : PSs X A (tE K c E Γ m)) (e : m' = m) : PSs X A (tE K c E Γ m') := by rw [e]; exact h
theorem tS_eq {m m' : WP (Stp α)} {G : α → List Sl} (h : PSs X A (tS K c E Γ m G)) (e : m' = m) : PSs X A (tS K c E Γ m' G) := by rw [e]; exact h
/-- what is raised leaves a def -/
theorem passX {Y : Cx} {E : XK} (tk : Takes Y (fun cls d _ H => E cls d H)) : Passes (L2.CX Y.prog Y.w) Y E := passes_call tk fun _ _ _ _ h => h
/-- a, b = e -/
theorem s_unp {tg : Expr} {f : D → Option α} {G : α → List Sl} {vs : List Nat} (h : PE X e (tW K c E Γ m)) (hg : PG X tg (tG K c Γ f G vs)) (hs : swapsWithSole [tg] e pos.line X.env = pure false := by rfl) (hw : swappedStores [tg] e X.env = pure none := by rfl)
    (h1 : (assignEach [tg] X.env).map (·.2) = [assign tg X.env] := by rfl) : PS X (.Assign [tg] e pos) (tX K c E Γ (m.bind fun d => .opt (f d)) G) :=
  ps_weak (ps_asg h hg hs hw h1) fun D σ H ⟨F, o, r⟩ => ⟨F, o, m.mono _ _ _ _ (fun d r v F1 H1 o1 g1 x1 => by
    obtain ⟨a, ha, r⟩ := WP.opt_run r
    exact ⟨F1, d, a, o1, x1, ha, fun σ' o' _ => r σ' F1 H1 o' g1.f⟩) (fun _ z => z) r⟩
/-- a, b = (x, y), both plain locals -/
theorem s_par (i j : Nat) {x y : Str} {px py pt pt2 : Pos} {kt k2 : Nat} {ea eb : Expr} (hc : X.calm = true) (hN : X.N.Nodup) (hi : X.N[i]? = some x) (hj : X.N[j]? = some y) (hij : i ≠ j)
    (hx : X.env.scope.names.lookup x = some .local) (hy : X.env.scope.names.lookup y = some .local) (ha : PL X K c E Γ [ea, eb] ms)
    (hw : swappedStores [.Tuple [.Name x px, .Name y py] kt pt] (.Tuple [ea, eb] k2 pt2) X.env = pure (some [x, y]) := by rfl)
    (hs : swapsWithSole [.Tuple [.Name x px, .Name y py] kt pt] (.Tuple [ea, eb] k2 pt2) pos.line X.env = pure false := by rfl) :
    PS X (.Assign [.Tuple [.Name x px, .Name y py] kt pt] (.Tuple [ea, eb] k2 pt2) pos) (tX K c E Γ (ms.bind fun ds => .opt (dPair (.tuple ds))) fun p => (Γ.set i (.imm p.1)).set j (.imm p.2)) :=
  ps_weak (ps_par hc hN hi hj hij hx hy ha.pa hw hs) fun D σ H ⟨F, o, r⟩ => ⟨F, o, ms.mono _ _ _ _ (fun ds r vs F1 H1 o1 g1 x1 => by
    obtain ⟨p, hp, r⟩ := WP.opt_run r
    cases dPair_some hp
    cases x1 with
    | cons r1 t => cases t with
      | cons r2 t =>
        cases t
        exact ⟨_, _, rfl, r _ F1 H1 ((o1.set r1).set r2) g1.f⟩) (fun _ z => z) r⟩
end
end GA
namespace GA
open PySem PySem.Spec PyProof.Rows L2
theorem hu65 {A : Around} {k : Nat} (hr : Room k A) : A.units + 65 < cLine := by have := hr.un; omega
theorem bt_int : bootBuiltins "int" = some (.type "int") := by decide +kernel
theorem bt_bool : bootBuiltins "bool" = some (.type "bool") := by decide +kernel
theorem bt_list : bootBuiltins "list" = some (.type "list") := by decide +kernel
theorem bt_tuple : bootBuiltins "tuple" = some (.type "tuple") := by decide +kernel
theorem bt_str : bootBuiltins "str" = some (.type "str") := by decide +kernel
theorem bt_len : bootBuiltins "len" = some (.builtin "len") := by decide +kernel
theorem bt_max : bootBuiltins "max" = some (.builtin "max") := by decide +kernel
theorem bt_min : bootBuiltins "min" = some (.builtin "min") := by decide +kernel
theorem bt_sum : bootBuiltins "sum" = some (.builtin "sum") := by decide +kernel
theorem bt_all : bootBuiltins "all" = some (.builtin "all") := by decide +kernel
theorem bt_abs : bootBuiltins "abs" = some (.builtin "abs") := by decide +kernel
theorem bt_sorted : bootBuiltins "sorted" = some (.builtin "sorted") := by decide +kernel
section
variable {X : Cx} {K : Nat → Addr} {c : C} {E : XK} {Γ Γ' : List Sl} {F F' H H' : Hp} {σ : L2.St} {pos : Pos}
def dSorted : List D → Option D := dSortI
theorem cr_sortedAll : CallR X (.builtin "sorted") (rSortedI X.K) := cr_sortedI
theorem cd_sorted {W : PySem.W.Frag} : CallD K (rSortedI W) dSorted := cd_sortI
end
end GA
namespace GA
open PySem PySem.Spec PyProof.Rows L2
/-- a draw: any number below the limit -/
def wDraw : List D → WP D
  | [.int n] => ⟨fun P _ => (0 < n ∧ n < 1073741824) ∧ ∀ r : Int, 0 ≤ r → r < n → P (.int r), fun P P' E E' h _ ⟨h1, h2⟩ => ⟨h1, fun r a b => h _ (h2 r a b)⟩⟩
  | _ => .lift .bad
theorem wDraw_int {ds : List D} {P : D → Prop} {E : Nat → Prop} (h : (wDraw ds).run P E) : ∃ n : Int, ds = [.int n] ∧ (0 < n ∧ n < 1073741824) ∧ ∀ r : Int, 0 ≤ r → r < n → P (.int r) := by
  unfold wDraw at h
  split at h
  · exact ⟨_, rfl, h.1, h.2⟩
  · exact h.elim
theorem mod_at (n : Int) {ns : List Int} (h : ns ≠ []) : ∃ (j : Nat) (c : Int), n % ((ns.map V.int).length : Int) = (j : Int) ∧ ns[j]? = some c ∧ j < ns.length := by
  have hp : 0 < ns.length := List.length_pos_iff.mpr h
  have h1 : 0 ≤ n % (ns.length : Int) := Int.emod_nonneg _ (by omega)
  have h2 : n % (ns.length : Int) < (ns.length : Int) := Int.emod_lt_of_pos _ (by omega)
  refine ⟨(n % (ns.length : Int)).toNat, ns[(n % (ns.length : Int)).toNat]'(by omega), ?_, List.getElem?_eq_getElem _, by omega⟩
  rw [List.length_map]
  omega
theorem lay_ints : ∀ ns : List Int, PyData.canLayAll0 (ns.map PyData.int) = true
  | [] => by simp [PyData.canLayAll0]
  | n :: ns => by simp only [List.map_cons, PyData.canLayAll0, PyData.canLay0, lay_ints ns, Bool.and_self]
theorem dep_ints : ∀ ns : List Int, PyData.depthAll (ns.map PyData.int) ≤ 1
  | [] => by simp [PyData.depthAll]
  | n :: ns => by
    have := dep_ints ns
    simp only [List.map_cons, PyData.depthAll, PyData.depth]
    omega
theorem shp_ints (ns : List Int) : SeqAt.shaped (.list (ns.map PyData.int)) = true := by
  have h2 := dep_ints ns
  have h1 : PyData.canLay0 (.list (ns.map PyData.int)) = true := by simp only [PyData.canLay0]; exact lay_ints ns
  have h3 : PyData.depth (.list (ns.map PyData.int)) ≤ 64 := by simp only [PyData.depth]; omega
  unfold SeqAt.shaped
  rw [h1, decide_eq_true h3] <;> rfl
theorem dp_ints {W : PySem.W.Frag} {H : Hp} : ∀ ns : List Int, DpAll W H (ns.map V.int) (ns.map PyData.int)
  | [] => .nil
  | n :: ns => .cons (.int n) (dp_ints ns)
section
variable {P : Program} {w : World} {W : PySem.W.Frag} {mg : Str → Option Value} {base : Heap} {K : Nat → Addr}
/-- the context of a def with draws -/
def cD (F H : Hp) (a b : Addr) : C := ⟨F, H, fun p => p = a ∨ p = b, fun H => DrOk H a b, fun H H' h ⟨n, ns, k, h1, h2, h3⟩ => ⟨n, ns, k, by rw [h a (.inl rfl)]; exact h1, by rw [h b (.inr rfl)]; exact h2, h3⟩⟩
theorem cD_dr {F H : Hp} {a b : Addr} : IsDr (cD F H a b) a b := ⟨fun _ => Iff.rfl, fun _ => Iff.rfl⟩
theorem cD_bs {F H : Hp} {a b : Addr} (e : Ex F H) (d : DrOk H a b) (fa : F a = none) (fb : F b = none) : Bs (cD F H a b) F H := by
  have nn : ∀ p, p = a ∨ p = b → H p ≠ none := fun p h => by
    obtain ⟨_, ns, k, h1, h2, _⟩ := d
    rcases h with rfl | rfl
    · rw [h1]; exact fun z => by cases z
    · rw [h2]; exact fun z => by cases z
  refine ⟨e, exR F, fun _ _ h _ => h, fun _ _ h => .inl h, fun p h => ?_, nn, nn, d⟩
  rcases h with rfl | rfl
  · exact fa
  · exact fb
def slotsD (N : List Str) (a : Addr) (ds : List D) : List Sl := .val (.ref a) :: slots N.tail ds
theorem startD_ok {N : List Str} {vs : List V} {ds : List D} {F H : Hp} {c : C} {a : Addr} (b : Bs c F H) (t : RpAll K F vs ds) (hn : ds.length + 1 ≤ N.length) : Ok K c F H (L2.start N (.ref a :: vs)) (slotsD N a ds) := by
  cases N with
  | nil => simp at hn
  | cons x N =>
    have e1 : L2.start (x :: N) (.ref a :: vs) = some (.ref a) :: L2.start N vs := by
      unfold L2.start
      simp
    rw [e1]
    show Ok K c F H (some (.ref a) :: L2.start N vs) (.val (.ref a) :: slots N ds)
    obtain ⟨π, x0⟩ := start_ok (N := N) b t (by simpa using hn)
    refine ⟨fun _ => [], b, by simp [x0.len], fun i s h => ?_, (fun i a h => by cases h), (fun i j a h => by cases h)⟩
    cases i with
    | zero => cases h; exact ⟨_, rfl, rfl⟩
    | succ i =>
      obtain ⟨π2, y0⟩ := start_ok (N := N) b t (by simpa using hn)
      obtain ⟨o, h1, h2⟩ := y0.sl i s (by simpa using h)
      refine ⟨o, by simpa using h1, ?_⟩
      cases s with
      | non => trivial
      | imm d => exact h2
      | val v => exact h2
      | res r =>
        exfalso
        have h' : (slots N ds)[i]? = some (.res r) := by simpa using h
        unfold slots at h'
        by_cases hi : i < ds.length
        · rw [List.getElem?_append_left (by simpa using hi), List.getElem?_map] at h'
          cases e : ds[i]? with
          | none => rw [e] at h'; cases h'
          | some d => rw [e] at h'; cases h'
        · rw [List.getElem?_append_right (by simpa using hi), List.getElem?_replicate] at h'
          split at h' <;> cases h'
theorem fn_D {x qual : Str} {pa : Arguments} {bd : List Stmt} {sc : Scope} {f : Addr} {fd : FuncData} {N ps : List Str} {k n : Nat} {fW : List D → WP D} (F : FunD W x qual pa bd sc [] [] f fd) (S : FnScope N ps sc) (hp : ps.length = n + 1)
    (hbody : ∀ (cdv : Value) (A : Around) (outer : List Env) (s : Shared) (H : Hp) (E : XK) (c : C) (a b : Addr) (ds : List D), IsDr c a b → Room k (A.deeper (envOfC qual sc s.heap.objs.size f cdv)) → ds.length = n →
      PSs (cxOf (CX P w) P w W mg base N qual sc f cdv A outer s H E) bd (tE K c E (slotsD N a ds) (fW ds))) : FnOk P w W mg base (CX P w) (k + 1) f fd ps (spD K n fW) := by
  refine F.ok S (fun vs H Q E h => ?_) (fun cdv A outer s H vs Q E hr h => ?_)
  · obtain ⟨F, ds, a, b, vs', rfl, _, _, _, _, t, e, _⟩ := h
    rw [List.length_cons, dps_len t, e, hp]
  · obtain ⟨F0, ds, a, b, vs', rfl, d, fa, fb, e, t, hl, r⟩ := h
    have hn : ds.length + 1 ≤ N.length := by
      have := congrArg List.length S.pre
      rw [List.length_take] at this
      omega
    refine ⟨_, hbody cdv A outer s H E (cD F0 H a b) a b ds cD_dr hr hl, F0, startD_ok (cD_bs e d fa fb) t hn, (fW ds).mono _ _ _ _ (fun d p v F' H' bs ef rp => ?_) (fun k p H' hp => ?_) r⟩
    · exact p v F' H' (fun q o h n1 n2 => bs.h0 q o h fun z => z.elim n1 n2) bs.rv bs.f0 bs.fh (fun q o h => bs.nw q o h) rp
    · exact p H' (fun q o h n1 n2 => hp.1 q o h fun z => z.elim n1 n2) hp.2.2
/-- new draws -/
def spStart (W : PySem.W.Frag) : Sp := fun vs H Q _ => ∃ (a : Addr) (ns : List Int), vs = [.ref a] ∧ SqL W H a (ns.map V.int) ∧ ns.length ≤ 63 ∧ ∀ p q H', Ex H H' → H p = none → H q = none → DrOk H' p q → Q (.ref p) H'
def spLaw (W : PySem.W.Frag) : Sp := fun vs H Q _ => ∃ (a : Addr) (ns : List Int), vs = [.ref a] ∧ SqL W H a (ns.map V.int) ∧ ns.length ≤ 63 ∧ ∀ H', Q (.bl true) H'
/-- the law's rest, behind draws = _law_start(script) -/
def tLaw (K : Nat → Addr) (N : List Str) (m : WP D) : TS := fun D σ H => ∃ (c : C) (a b : Addr), IsDr c a b ∧ tE K c E0 (.non :: .val (.ref a) :: List.replicate (N.length - 2) .non) m D σ H
theorem pss_law {X : Cx} {N : List Str} {st : List Stmt} {m : WP D} (h : ∀ (c : C) (a b : Addr), IsDr c a b → PSs X st (tE K c E0 (.non :: .val (.ref a) :: List.replicate (N.length - 2) .non) m)) : PSs X st (tLaw K N m) :=
  ⟨fun pins s σ H D I ⟨c, a, b, d, q⟩ => (h c a b d).run pins s σ H D I q⟩
/-- THE LAW by its rest -/
theorem fn_law {x qual : Str} {pa : Arguments} {e : Expr} {px pos : Pos} {rest : List Stmt} {sc : Scope} {f : Addr} {fd : FuncData} {N : List Str} {k : Nat} {m : WP D} (F : FunD W x qual pa (.Assign [.Name "draws" px] e pos :: rest) sc [] [] f fd) (S : FnScope N ["script"] sc) (h1 : N[1]? = some ("draws" : Str)) (hm : m.run (fun d => d = .bool true) fun _ => False)
    (hloc : Loc sc "draws") (hl : 2 ≤ N.length)
    (hs : ∀ (cdv : Value) (A : Around) (outer : List Env) (s : Shared) (H : Hp) (E : XK), Room k (A.deeper (envOfC qual sc s.heap.objs.size f cdv)) → PE (cxOf CX0 P w W mg base N qual sc f cdv A outer s H E).nox e (tCall (spStart W) [] E0 (tCons (tVar 0) tNil)))
    (hsw : ∀ (cdv : Value) (A : Around) (outer : List Env) (s : Shared) (H : Hp) (E : XK), swapsWith e (some (.Name "draws" px)) pos.line (cxOf CX0 P w W mg base N qual sc f cdv A outer s H E).nox.env = pure false)
    (hbody : ∀ (cdv : Value) (A : Around) (outer : List Env) (s : Shared) (H : Hp) (E : XK) (c : C) (a b : Addr), IsDr c a b → Room k (A.deeper (envOfC qual sc s.heap.objs.size f cdv)) →
      PSs (cxOf CX0 P w W mg base N qual sc f cdv A outer s H E).nox rest (tE K c E0 (.non :: .val (.ref a) :: List.replicate (N.length - 2) .non) m)) : FnOk P w W mg base CX0 (k + 1) f fd ["script"] (spLaw W) := by
  refine F.ok S (fun vs H Q E h => ?_) (fun cdv A outer s H vs Q E hr h => ?_)
  · obtain ⟨a, ns, rfl, _⟩ := h
    rfl
  · obtain ⟨a, ns, rfl, hS, hlen, q⟩ := h
    refine ⟨_, PSs.nox (pss_cons (ps_set (i := 1) S.nd h1 hloc (hs cdv A outer s H E hr) (hsw cdv A outer s H E)) (pss_law (K := K) (N := N) fun c a b dr => hbody cdv A outer s H E c a b dr hr)), ?_⟩
    have e0 : L2.start N [V.ref a] = some (V.ref a) :: List.replicate (N.length - 1) none := by
      unfold L2.start
      simp
    show tCall (spStart W) [] E0 (tCons (tVar 0) tNil) (L2.start N [V.ref a]) H _
    rw [e0]
    refine ⟨.ref a, rfl, a, ns, rfl, hS, hlen, fun p qq H' eh np nq dk => ?_⟩
    refine ⟨cD (fun _ => none) H' p qq, p, qq, cD_dr, fun _ => none, ?_, ?_⟩
    · have bs : Bs (cD (fun _ => none) H' p qq) (fun _ => none) H' := cD_bs (fun _ _ h => by cases h) dk rfl rfl
      refine ⟨fun _ => [], bs, ?_, fun i s hi => ?_, (fun i a h => by cases h), (fun i j a h => by cases h)⟩
      · simp
        omega
      · cases i with
        | zero => cases hi; exact ⟨_, rfl, trivial⟩
        | succ i =>
          cases i with
          | zero =>
            cases hi
            refine ⟨some (.ref p), ?_, rfl⟩
            rw [List.getElem?_set_self]
            simp
            omega
          | succ i =>
            have hi' : (List.replicate (N.length - 2) Sl.non)[i]? = some s := by simpa using hi
            rw [List.getElem?_replicate] at hi'
            split at hi'
            · cases hi'
              refine ⟨none, ?_, trivial⟩
              rw [List.getElem?_set_ne (by omega), List.getElem?_cons_succ, List.getElem?_replicate, if_pos (by omega)]
            · cases hi'
    · refine m.mono _ _ _ _ (fun d hd v F' H2 b2 e2 rp => ?_) (fun _ z => z.elim) hm
      subst hd
      cases rp
      exact q _
end
end GA
namespace GA
open PySem PySem.Spec PyProof.Rows L2
/-! sum(t), sorted(t) of a tuple of ints -/
section
variable {prog : Program} {w : World} {A : Around} {E : Value → Shared → Prop} {s : Shared}
theorem sorted_seq {l : Addr} {vs : List Value} {ltv : Value → Value → Bool} {Q : Value → Shared → Prop} {T : String} {o : Obj} {n : Nat} (O : SrtO.Swo ltv) (hT : T = "list" ∨ T = "tuple") (ho : s.heap.get? l = some o) (hc : o.cls = .type T) (hd : o.data = .seq vs.toArray n) (hz : vs.length ≤ sizeLine)
    (hS : 2 ≤ vs.length → ∀ (h₁ : Heap) (a : Addr), h₁.get? a = some (seqObj "list" vs.toArray 0) → (∀ b o, s.heap.get? b = some o → b ≠ a ∧ h₁.get? b = some o) → SrtO.SortableO prog w A.in1.in1 { s with heap := h₁ } a vs ltv)
    (h : ∀ (out : List Value) (h1 : Heap), (∀ b o, s.heap.get? b = some o → h1.get? b = some o) → SrtO.Srtd ltv out → SrtO.Stb ltv out vs → Q (.ref h1.objs.size) { s with heap := sortedHeap (h1.push (seqObj "list" vs.toArray 0)) h1.objs.size vs out.toArray }) :
    wpAny (model prog w) A (call (.builtin "sorted") [.ref l]) Q E s := by
  refine Calls.call_function_entry kind_sorted plain_sorted entry_sorted (args_sorted1 _) ?_
  unfold Builtin.«sorted»
  refine wpAny_bind (m := checkCount "sorted" 1 1 _) (wpAny_pure ?_)
  refine wpAny_bind (wpAny_collect_seq l hT ho hc hd (fun h1 kp => ?_) (by rw [List.size_toArray]; exact hz))
  refine wpAny_bind (wpAny_newList ?_ hz)
  have hoL : (h1.push (seqObj "list" vs.toArray 0)).get? h1.objs.size = some (seqObj "list" vs.toArray 0) := Heap.get?_push_size _ rfl
  have keep : ∀ b o, s.heap.get? b = some o → b ≠ h1.objs.size ∧ (h1.push (seqObj "list" vs.toArray 0)).get? b = some o := fun b o q => by
    have q1 := kp b o q
    exact ⟨Nat.ne_of_lt (Heap.lt_size q1), Heap.get?_push_of_some _ q1⟩
  show wpAny _ _ _ _ _ { s with heap := h1.push (seqObj "list" vs.toArray 0) }
  refine wpAny_bind (wpAny_holding (wpAny_call_entry slot_list_sort ⟨_, hoL, rfl⟩ entry_list_sort (SrtO.list_sort_ord O hoL hz (fun h2 => hS h2 _ _ hoL keep) fun out hs hb => ⟨_, rfl, ?_⟩) (args_list_sort _)))
  exact wpAny_pure ⟨_, rfl, h out h1 kp hs hb⟩
theorem sum_tup {t : Addr} {its : List Value} {ns : List Int} {Q : Value → Shared → Prop} (hh : A.handled = none) (ht : s.heap.IsTuple t its.toArray) (hi : IntsAre its ns)
    (h : ∀ h' tk t', (∀ b o, s.heap.get? b = some o → h'.get? b = some o) → Q (.int ns.sum t') { s with heap := h', toks := tk }) : wpAny (model prog w) A (call (.builtin "sum") [.ref t]) Q E s := by
  obtain ⟨xs, hx⟩ := hi.allInts.items
  have hn : numsOf its.toArray.toList = ns := by rw [show its.toArray.toList = its from rfl, hi.numsOf]
  rw [hx] at ht hn
  rw [nums_intItems] at hn
  refine PySem.W.ktm_sumG hh ht fun h' tk t' hk => ?_
  rw [preSum_eq, List.take_of_length_le (by simp), hn]
  exact h h' tk t' hk
end
section
variable {X : Cx}
def rSumT (K : PySem.W.Frag) : List V → Hp → VK → Prop := fun vs H Q => ∃ (a : Addr) (ns : List Int), vs = [V.ref a] ∧ SqT K H a (ns.map V.int) ∧ Q (.int ns.sum) H
theorem cr_sumT (hc : X.calm = true) : CallR X (.builtin "sum") (rSumT X.K) := by
  intro pins s σ H vs us Q I r h
  obtain ⟨a, ns, rfl, hs, q⟩ := h
  obtain ⟨its, rv, hl, _⟩ := I.tuple hs
  rw [Vals.ref1 r]
  exact sum_tup (I.ok.hd hc) hl rv.ints fun h' tk t' hk => ⟨.int _, H, I.kept hk, ⟨_, rfl⟩, q⟩
def rSortedT (K : PySem.W.Frag) : List V → Hp → VK → Prop := fun vs H Q => ∃ (a : Addr) (ns : List Int), vs = [V.ref a] ∧ SqT K H a (ns.map V.int) ∧
  ∀ (ns' : List Int) (p : Addr), ns'.Perm ns → ns'.Pairwise (· ≤ ·) → H p = none → Q (.ref p) (upd H p (.lst (ns'.map V.int)))
theorem cr_sortedT : CallR X (.builtin "sorted") (rSortedT X.K) := by
  intro pins s σ H vs us Q I r h
  obtain ⟨a, ns, rfl, hs, q⟩ := h
  obtain ⟨its, rv, hl, hz⟩ := I.tuple hs
  rw [Vals.ref1 r]
  have hi := rv.ints
  obtain ⟨o, ho, hc, n, hd⟩ := hl
  refine sorted_seq SrtO.swo_int (.inr rfl) ho hc hd (by rw [← rv.length]; exact hz) (fun h2 h₁ a' _ _ => SrtO.ints_sortable hi h2) fun out h1 kp h1' h2' => ?_
  obtain ⟨k1, k2, k3⟩ := SrtO.ints_out hi h1' h2'
  have hoL : (h1.push (seqObj "list" its.toArray 0)).get? h1.objs.size = some (seqObj "list" its.toArray 0) := Heap.get?_push_size _ rfl
  obtain ⟨ep, he'⟩ := PyProof.Rows.sortedHeap_at (vs := its) (out := out.toArray) hoL
  have hlen : ((out.map SrtO.iv).map V.int).length ≤ sizeLine := by
    rw [List.length_map, k2.length_eq]
    rw [List.length_map] at hz
    exact hz
  have I1 : Inv X pins σ H { s with heap := h1 } := I.kept (t' := s.toks) kp
  refine ⟨.ref _, upd H h1.objs.size (.lst ((out.map SrtO.iv).map V.int)), I1.laid (t' := s.toks) (fun b u hb => ?_) (Nat.le_refl _) ⟨hlen, out, ep, vals_of_ints k1, he'⟩, rfl, q _ _ k2 k3 (I1.hok.fresh (Nat.le_refl _))⟩
  have hlt := Heap.lt_size hb
  rw [PyProof.Rows.sortedHeap_old (Nat.ne_of_lt hlt) (by rw [size_push']; exact Nat.lt_succ_of_lt hlt)]
  exact Heap.get?_push_of_some _ hb
end
section
variable {X : Cx} {K : Nat → Addr} {c : C} {E : XK} {Γ Γ' : List Sl} {F F' H H' : Hp} {σ : L2.St}
def dSumA : List D → Option D
  | [.list ds] => (dInts ds).map fun ns => .int ns.sum
  | [.tuple ds] => (dInts ds).map fun ns => .int ns.sum
  | _ => none
def dSortA : List D → Option D
  | [.list ds] => (dInts ds).map fun ns => .list ((sortI ns).map .int)
  | [.tuple ds] => (dInts ds).map fun ns => .list ((sortI ns).map .int)
  | _ => none
theorem cr_sumA (hc : X.calm = true) : CallR X (.builtin "sum") (fun xs H Q => rSum X.K xs H Q ∨ rSumT X.K xs H Q) := (cr_sum hc).or (cr_sumT hc)
theorem cr_sortA : CallR X (.builtin "sorted") (fun xs H Q => rSortedI X.K xs H Q ∨ rSortedT X.K xs H Q) := cr_sortedI.or cr_sortedT
theorem cd_sumA {W : PySem.W.Frag} : CallD K (fun xs H Q => rSum W xs H Q ∨ rSumT W xs H Q) dSumA := by
  intro c Γ σ F H vs ds z Q o hx hf q
  unfold dSumA at hf
  split at hf
  · exact .inl (cd_sum c Γ σ F H vs _ z Q o hx hf q)
  · rename_i ds
    obtain ⟨v, rfl, h⟩ := rd1 hx
    obtain ⟨a, vs, rfl, h1, t1⟩ := h.tup o.bs.fh
    cases e : dInts ds with
    | none => rw [e] at hf; cases hf
    | some ns =>
      rw [e] at hf
      cases hf
      cases ints_rp t1 e
      exact .inr ⟨a, ns, rfl, .inl (.inl h1), q _ F H o .refl (.int _)⟩
  · cases hf
theorem cd_sortA {W : PySem.W.Frag} : CallD K (fun xs H Q => rSortedI W xs H Q ∨ rSortedT W xs H Q) dSortA := by
  intro c Γ σ F H vs ds z Q o hx hf q
  unfold dSortA at hf
  split at hf
  · exact .inl (cd_sortI c Γ σ F H vs _ z Q o hx hf q)
  · rename_i ds
    obtain ⟨v, rfl, h⟩ := rd1 hx
    obtain ⟨a, vs, rfl, h1, t1⟩ := h.tup o.bs.fh
    cases e : dInts ds with
    | none => rw [e] at hf; cases hf
    | some ns =>
      rw [e] at hf
      cases hf
      cases ints_rp t1 e
      refine .inr ⟨a, ns, rfl, .inl (.inl h1), fun ns' p hp hs hn => ?_⟩
      rw [sorted_unique (hp.trans (sortI_perm ns).symm) hs (sortI_sorted ns)]
      exact new_lst o hn (rp_ints _) q
  · cases hf
end
end GA
namespace GA
open PySem PySem.Spec PyProof.Rows L2
/-! list(zip(xs, ys)) -/
theorem zip_no_len : typeLookup (.type "zip") "__len__" = pure none := am_miss_of_fast (by decide +kernel)
theorem zip_no_hint : typeLookup (.type "zip") "__length_hint__" = pure none := am_miss_of_fast (by decide +kernel)
/-- the zip's state while its tuples are kept; d: the list that is being filled -/
def ZSt (z TI TO i1 i2 l1 l2 d : Addr) (xs ys : Array Value) (i : Nat) (h : Heap) : Prop := IsPair h TI (.ref i1) (.ref i2) ∧ h.IsListIter i1 l1 i ∧ h.IsListIter i2 l2 i ∧ h.IsList l1 xs ∧ h.IsList l2 ys ∧ (∃ a b, IsPair h TO a b) ∧
  (IsZip h z TI TO .none ∨ ∃ T f oT, IsZipHeld h z TI TO T f ∧ h.get? T = some oT ∧ T ≠ z ∧ T ≠ i1 ∧ T ≠ i2 ∧ T ≠ d)
/-- the tuples so far -/
def ZAcc (z TO i1 i2 d : Addr) (xs ys acc : Array Value) (i : Nat) (h : Heap) : Prop := ∃ Ts : List Addr, acc.toList = Ts.map Value.ref ∧ Ts.length = i ∧ Ts.Nodup ∧ ∀ (j : Nat) (T : Addr), Ts[j]? = some T → ∃ x y, xs[j]? = some x ∧ ys[j]? = some y ∧ IsPair h T x y ∧ d < T ∧ T ≠ z ∧ T ≠ TO ∧ T ≠ i1 ∧ T ≠ i2
section
variable {prog : Program} {w : World} {A : Around} {E : Value → Shared → Prop} {s : Shared} {R : Result → Shared → Prop} {z TI TO i1 i2 l1 l2 d : Addr} {xs ys : Array Value}
theorem ZSt.frame {i : Nat} {h h' : Heap} (x : ZSt z TI TO i1 i2 l1 l2 d xs ys i h) (hd : TI ≠ d ∧ i1 ≠ d ∧ i2 ≠ d ∧ l1 ≠ d ∧ l2 ≠ d ∧ z ≠ d ∧ TO ≠ d) (hk : ∀ b o, b ≠ d → h.get? b = some o → h'.get? b = some o) : ZSt z TI TO i1 i2 l1 l2 d xs ys i h' := by
  obtain ⟨d1, d2, d3, d4, d5, d6, d7⟩ := hd
  obtain ⟨hTI, h1, h2, hl1, hl2, ⟨a, b, hTO⟩, hz⟩ := x
  refine ⟨hk _ _ d1 hTI, h1.at fun o e => hk _ o d2 e, h2.at fun o e => hk _ o d3 e, hl1.at fun o e => hk _ o d4 e, hl2.at fun o e => hk _ o d5 e, ⟨a, b, hk _ _ d7 hTO⟩, ?_⟩
  rcases hz with hz | ⟨T, f, oT, hz, hT, r1, r2, r3, r4⟩
  · exact .inl (hk _ _ d6 hz)
  · exact .inr ⟨T, f, oT, hk _ _ d6 hz, hk _ _ r4 hT, r1, r2, r3, r4⟩
theorem ZAcc.size {acc : Array Value} {i : Nat} {h : Heap} (x : ZAcc z TO i1 i2 d xs ys acc i h) : acc.size = i := by
  obtain ⟨Ts, a1, a2, _⟩ := x
  rw [← Array.length_toList, a1, List.length_map, a2]
theorem extend_zip (hh : A.handled = none) (D : ZipApart z TI TO i1 i2 l1 l2) (hn : min xs.size ys.size ≤ sizeLine) (hd : TI ≠ d ∧ i1 ≠ d ∧ i2 ≠ d ∧ l1 ≠ d ∧ l2 ≠ d ∧ z ≠ d ∧ TO ≠ d) (res : Value) {h₀ : Heap} {s : Shared}
    (hR : ∀ h' tk acc c, (∀ b o, b ≠ d → b ≠ z → b ≠ TO → b ≠ i1 → b ≠ i2 → h₀.get? b = some o → h'.get? b = some o) → h'.get? d = some { cls := .type "list", dict := none, data := .seq acc c, slots := #[] } → ZAcc z TO i1 i2 d xs ys acc (min xs.size ys.size) h' → R (.ok (.ret res)) { s with heap := h', toks := tk }) :
    ∀ (k i : Nat) (h : Heap) (tk : Tok) (acc : Array Value) (c : Nat), min xs.size ys.size - i = k → i ≤ min xs.size ys.size → ZSt z TI TO i1 i2 l1 l2 d xs ys i h → h.get? d = some { cls := .type "list", dict := none, data := .seq acc c, slots := #[] } → ZAcc z TO i1 i2 d xs ys acc i h →
      (∀ b o, b ≠ d → b ≠ z → b ≠ TO → b ≠ i1 → b ≠ i2 → h₀.get? b = some o → h.get? b = some o) →
      codeAny (model prog w) A (.builtin "list.extend.loop" ⟨[.ref d, .ref z, res], []⟩) R { s with heap := h, toks := tk } := by
  obtain ⟨d1, d2, d3, d4, d5, d6, d7⟩ := id hd
  intro k
  induction k with
  | zero =>
    intro i h tk acc c hk hi st hD ha hkeep
    have hin : i = min xs.size ys.size := by omega
    have hend : xs[i]? = none ∨ ys[i]? = none := by
      rcases Nat.le_total xs.size ys.size with q | q
      · exact .inl (Array.getElem?_eq_none (by omega))
      · exact .inr (Array.getElem?_eq_none (by omega))
    refine codeAny_builtin F.entry_extend_loop ?_
    rw [Around.under_plainId F.plain_extend_loop _]
    show wpAny _ A.in1 (pyNext (.ref z) >>= _) _ _ _
    obtain ⟨hTI, h1, h2, hl1, hl2, ⟨a, b, hTO⟩, hz⟩ := st
    have fin : ∀ h' : Heap, (∀ b o, b ≠ z → b ≠ TO → b ≠ i1 → b ≠ i2 → h.get? b = some o → h'.get? b = some o) → R (.ok (.ret res)) { s with heap := h', toks := tk } := fun h' hk' => by
      refine hR h' tk acc c (fun b o n0 n1 n2 n3 n4 e => hk' b o n1 n2 n3 n4 (hkeep b o n0 n1 n2 n3 n4 e)) (hk' d _ (Ne.symm d6) (Ne.symm d7) (Ne.symm d2) (Ne.symm d3) hD) ?_
      obtain ⟨Ts, a1, a2, a3, a4⟩ := ha
      refine ⟨Ts, a1, a2.trans hin, a3, fun j T hj => ?_⟩
      obtain ⟨x, y, e2, e3, e4, e5, n1, n2, n3, n4⟩ := a4 j T hj
      exact ⟨x, y, e2, e3, hk' T _ n1 n2 n3 n4 e4, e5, n1, n2, n3, n4⟩
    rcases hz with hz | ⟨T, f, oT, hz, hT, r1, r2, r3, r4⟩
    · exact wpAny_bind (wpAny_pyNext_zip_end (s := { s with heap := h, toks := tk }) hh D hz hTI hTO h1 h2 hl1 hl2 hend fun h' hk' => wpAny_pure (fin h' fun b o n1 n2 n3 n4 e => hk' b o n1 n2 n3 n4 e))
    · exact wpAny_bind (wpAny_pyNext_zip_end_held (s := { s with heap := h, toks := tk }) hh D hz hT hTI h1 h2 hl1 hl2 hend fun h' hk' => wpAny_pure (fin h' fun b o n1 n2 n3 n4 e => hk' b o n1 n3 n4 e))
  | succ k ih =>
    intro i h tk acc c hk hi st hD ha hkeep
    have hlt : i < min xs.size ys.size := by omega
    have ex := Array.getElem?_eq_getElem (xs := xs) (i := i) (by omega)
    have ey := Array.getElem?_eq_getElem (xs := ys) (i := i) (by omega)
    refine codeAny_builtin F.entry_extend_loop ?_
    rw [Around.under_plainId F.plain_extend_loop _]
    show wpAny _ A.in1 (pyNext (.ref z) >>= _) _ _ _
    obtain ⟨hTI, h1, h2, hl1, hl2, ⟨a, b, hTO⟩, hz⟩ := st
    have lt : ∀ {c o}, h.get? c = some o → h.objs.size ≠ c := fun e => Nat.ne_of_gt (Heap.lt_size e)
    have n1 : h.objs.size ≠ i1 := let ⟨_, e, _⟩ := h1; lt e
    have n2 : h.objs.size ≠ i2 := let ⟨_, e, _⟩ := h2; lt e
    -- one turn, in either state
    have go : ∀ h' : Heap, IsPair h' TI (.ref i1) (.ref i2) → h'.IsListIter i1 l1 (i + 1) → h'.IsListIter i2 l2 (i + 1) → h'.IsList l1 xs → h'.IsList l2 ys → (∃ a b, IsPair h' TO a b) → (∃ T f oT, IsZipHeld h' z TI TO T f ∧ h'.get? T = some oT ∧ T ≠ z ∧ T ≠ i1 ∧ T ≠ i2 ∧ T ≠ d) → IsPair h' h.objs.size xs[i] ys[i] → h.objs.size ≠ z → h.objs.size ≠ TO →
        (∀ b o, b ≠ z → b ≠ TO → b ≠ i1 → b ≠ i2 → h.get? b = some o → h'.get? b = some o) →
        wpAny (model prog w) A.in1 (updateSeq d (·.push (.ref h.objs.size)) >>= fun _ => again (.builtin "list.extend.loop" ⟨[.ref d, .ref z, res], []⟩))
          (fun fin s' => match fin with | .done f => R (.ok f) s' | .again c' => c'.quiet = true ∧ codeAny (model prog w) A c' R s') (fun e s' => R (.error e) s') { s with heap := h', toks := tk } := fun h' a1 a2 a3 a4 a5 a6' a6 a7 nz nTO hk' => by
      have hD' := hk' d _ (Ne.symm d6) (Ne.symm d7) (Ne.symm d2) (Ne.symm d3) hD
      refine wpAny_bind (wpAny_updateSeq (s := { s with heap := h', toks := tk }) hD' rfl (wpAny_pure ⟨plainId_quiet F.plain_extend_loop _, ih (i + 1) _ tk (acc.push (.ref h.objs.size)) _ (by omega) hlt (ZSt.frame (h := h') ⟨a1, a2, a3, a4, a5, a6', .inr a6⟩ hd fun b o hb e => (Heap.get?_update_other _ _ (Ne.symm hb)).trans e) (Heap.get?_update_self _ hD' rfl) ?_ ?_⟩)
        (by have := ZAcc.size ha; omega) (by show (acc.push _).size ≤ sizeLine + 1; rw [Array.size_push]; have := ZAcc.size ha; omega))
      · obtain ⟨Ts, b1, b2, b3, b4⟩ := ha
        have hdl : d < h.objs.size := Heap.lt_size hD
        refine ⟨Ts ++ [h.objs.size], by rw [Array.toList_push, b1]; simp, by simp [b2], ?_, fun j T hj => ?_⟩
        · rw [List.nodup_append]
          refine ⟨b3, by simp, fun u hu v hv e => ?_⟩
          rw [List.mem_singleton] at hv
          obtain ⟨j, hj, ej⟩ := List.getElem_of_mem hu
          obtain ⟨x, y, _, _, e4, _⟩ := b4 j u (by rw [List.getElem?_eq_getElem hj, ej])
          exact lt e4 (hv ▸ e.symm ▸ rfl)
        · by_cases q : j < i
          · rw [List.getElem?_append_left (by omega)] at hj
            obtain ⟨x, y, e2, e3, e4, e5, m1, m2, m3, m4⟩ := b4 j T hj
            exact ⟨x, y, e2, e3, (Heap.get?_update_other _ _ (Nat.ne_of_lt e5)).trans (hk' T _ m1 m2 m3 m4 e4), e5, m1, m2, m3, m4⟩
          · rw [List.getElem?_append_right (by omega)] at hj
            have : j = i := by
              cases q2 : j - Ts.length with
              | zero => omega
              | succ n => rw [q2] at hj; simp at hj
            subst this
            rw [b2, Nat.sub_self] at hj
            cases hj
            exact ⟨xs[j], ys[j], ex, ey, (Heap.get?_update_other _ _ (Nat.ne_of_lt hdl)).trans a7, hdl, nz, nTO, n1, n2⟩
      · intro b o n0 m1 m2 m3 m4 e
        exact (Heap.get?_update_other _ _ (Ne.symm n0)).trans (hk' b o m1 m2 m3 m4 (hkeep b o n0 m1 m2 m3 m4 e))
    rcases hz with hz | ⟨T, f, oT, hz, hT, r1, r2, r3, r4⟩
    · refine wpAny_bind (wpAny_pyNext_zip_item (s := { s with heap := h, toks := tk }) D hz hTI hTO h1 h2 hl1 hl2 ex ey fun h' a1 a2 a3 a4 a5 a6 hk' => ?_)
      exact go h' (hk' _ _ D.TIz D.TITO D.TIi1 D.TIi2 hTI) a3 a4 (hl1.at fun o e => hk' _ o D.l1z D.l1TO D.l1i1 D.l1i2 e) (hl2.at fun o e => hk' _ o D.l2z D.l2TO D.l2i1 D.l2i2 e) ⟨_, _, a2⟩ ⟨h.objs.size, false, _, a1, a5, lt hz, n1, n2, lt hD⟩ a5 (lt hz) (lt hTO) hk'
    · refine wpAny_bind (wpAny_pyNext_zip_item_held (s := { s with heap := h, toks := tk }) D hz hT hTI h1 h2 hl1 hl2 ex ey fun h' a1 a3 a4 a5 a6 hk' => ?_)
      exact go h' (hk' _ _ D.TIz D.TIi1 D.TIi2 hTI) a3 a4 (hl1.at fun o e => hk' _ o D.l1z D.l1i1 D.l1i2 e) (hl2.at fun o e => hk' _ o D.l2z D.l2i1 D.l2i2 e) ⟨_, _, hk' _ _ D.TOz D.TOi1 D.TOi2 hTO⟩ ⟨T, true, oT, a1, hk' _ _ r1 r2 r3 hT, r1, r2, r3, r4⟩ a5 (lt hz) (lt hTO) fun b o m1 m2 m3 m4 e => hk' b o m1 m3 m4 e

theorem init_zip (hh : A.handled = none) (D : ZipApart z TI TO i1 i2 l1 l2) (hn : min xs.size ys.size ≤ sizeLine) (hd : TI ≠ d ∧ i1 ≠ d ∧ i2 ≠ d ∧ l1 ≠ d ∧ l2 ≠ d ∧ z ≠ d ∧ TO ≠ d) (hz0 : IsZip s.heap z TI TO .none) (st : ZSt z TI TO i1 i2 l1 l2 d xs ys 0 s.heap)
    (hS : s.heap.get? d = some { cls := .type "list", data := .seq #[] })
    (hR : ∀ h' tk acc c, (∀ b o, b ≠ d → b ≠ z → b ≠ TO → b ≠ i1 → b ≠ i2 → s.heap.get? b = some o → h'.get? b = some o) → h'.get? d = some { cls := .type "list", dict := none, data := .seq acc c, slots := #[] } → ZAcc z TO i1 i2 d xs ys acc (min xs.size ys.size) h' → R (.ok (.ret .none)) { s with heap := h', toks := tk }) :
    wpAny (model prog w) A.in1 (Builtin.«list.__init__» ⟨[.ref d, .ref z], []⟩)
      (fun fin s' => match fin with | .done f => R (.ok f) s' | .again c' => c'.quiet = true ∧ codeAny (model prog w) A c' R s') (fun e s' => R (.error e) s') s := by
  show wpAny _ A.in1 (do let old ← Builtin.List.listItems (.ref d); Builtin.List.listUpdate (.ref d) (fun _ => #[]); letGo old.toList.reverse; Builtin.List.listExtendWith (.ref d) (.ref z) .none) _ _ s
  refine wpAny_bind ?_
  unfold Builtin.List.listItems
  refine wpAny_bind (wpAny_seqItems hS rfl (wpAny_pure ?_))
  show wpAny _ A.in1 (updateSeq d (fun _ => #[]) >>= fun _ => letGo (#[] : Array Value).toList.reverse >>= fun _ => Builtin.List.listExtendWith (.ref d) (.ref z) .none) _ _ s
  refine wpAny_bind (wpAny_updateSeq hS rfl ?_)
  have hS₂ := Heap.get?_update_self (Obj.mapSeq (fun _ => (#[] : Array Value))) hS rfl
  have oth : ∀ b o, b ≠ d → s.heap.get? b = some o → (s.heap.update d (Obj.mapSeq (fun _ => (#[] : Array Value)))).get? b = some o :=
    fun b o hb e => (Heap.get?_update_other _ _ (Ne.symm hb)).trans e
  refine wpAny_bind (wpAny_letGo ?_)
  have hz1 := oth _ _ hd.2.2.2.2.2.1 hz0
  have st1 := st.frame hd oth
  generalize s.heap.update d (Obj.mapSeq (fun _ => (#[] : Array Value))) = h1 at hz1 st1 hS₂ oth
  have hSI : d ≠ z := Ne.symm hd.2.2.2.2.2.1
  have hT : ({ s with heap := h1 } : Shared).TypeIs (.ref z) "zip" := ⟨_, hz1, rfl⟩
  unfold Builtin.List.listExtendWith
  refine wpAny_bind (wpAny_typeOf hT ?_)
  have e1 : Builtin.List.listSameRef (.ref d) (.ref z) = false := by simp [Builtin.List.listSameRef, hSI]
  have e2 : (Value.type "zip" == Value.type "list") = false := by decide
  have e3 : (Value.type "zip" == Value.type "tuple") = false := by decide
  simp only [e1, e2, e3, Bool.or_false, Bool.false_eq_true, if_false]
  refine wpAny_bind (wpAny_pyIter_zip (s := { s with heap := h1 }) hz1 ?_)
  refine wpAny_bind (wpAny_holding ?_)
  unfold Builtin.List.listLengthHint
  refine wpAny_bind (wpAny_specialOf hT zip_no_len ?_)
  show wpAny _ A.in1 (specialOf (Value.ref z) (Str.ofString "__length_hint__") >>= _) _ _ _
  refine wpAny_bind (wpAny_specialOf hT zip_no_hint ?_)
  refine wpAny_pure ?_
  show wpAny _ A.in1 (rule "list.extend.makes-room" >>= fun _ => Builtin.List.listTouch (.ref d) >>= fun _ =>
    again (.builtin "list.extend.loop" ⟨[.ref d, .ref z, .none], []⟩)) _ _ _
  refine wpAny_bind (wpAny_rule ?_)
  refine wpAny_bind ?_
  show wpAny _ A.in1 (updateSeq d (·.push .none) >>= fun _ => updateSeq d (·.pop)) _ _ _
  refine wpAny_bind (wpAny_updateSeq (s := { s with heap := h1 }) hS₂ rfl ?_)
  have hS₃ := Heap.get?_update_self (Obj.mapSeq (·.push Value.none)) hS₂ rfl
  refine wpAny_updateSeq (hz := by seq_fits) hS₃ rfl ?_
  have hS₄ := Heap.get?_update_self (Obj.mapSeq (·.pop)) hS₃ rfl
  have oth2 : ∀ b o, b ≠ d → h1.get? b = some o → ((h1.update d (Obj.mapSeq (·.push Value.none))).update d (Obj.mapSeq (·.pop))).get? b = some o :=
    fun b o hb e => (Heap.get?_update_other _ _ (Ne.symm hb)).trans ((Heap.get?_update_other _ _ (Ne.symm hb)).trans e)
  exact wpAny_pure ⟨plainId_quiet F.plain_extend_loop _, extend_zip (s := s) (h₀ := s.heap) hh D hn hd .none hR _ 0 _ s.toks #[] _ rfl (Nat.zero_le _) (st1.frame hd oth2) hS₄ ⟨[], rfl, rfl, .nil, fun j T hj => by simp at hj⟩ fun b o n0 _ _ _ _ e => oth2 b o n0 (oth b o n0 e)⟩
theorem call_list_zip {a b : Value} {Q : Value → Shared → Prop} (hh : A.handled = none) (D : ZipApart z TI TO i1 i2 l1 l2) (hn : min xs.size ys.size ≤ sizeLine) (hz : IsZip s.heap z TI TO .none) (hTI : IsPair s.heap TI (.ref i1) (.ref i2)) (hTO : IsPair s.heap TO a b)
    (h1 : s.heap.IsListIter i1 l1 0) (h2 : s.heap.IsListIter i2 l2 0) (hl1 : s.heap.IsList l1 xs) (hl2 : s.heap.IsList l2 ys)
    (hQ : ∀ h' tk acc c, (∀ b o, b ≠ z → b ≠ TO → b ≠ i1 → b ≠ i2 → s.heap.get? b = some o → h'.get? b = some o) → h'.get? s.heap.objs.size = some { cls := .type "list", dict := none, data := .seq acc c, slots := #[] } → ZAcc z TO i1 i2 s.heap.objs.size xs ys acc (min xs.size ys.size) h' → Q (.ref s.heap.objs.size) { s with heap := h', toks := tk }) :
    wpAny (model prog w) A (call (.type "list") [.ref z]) Q E s := by
  refine callType_codes (Q₁ := fun obj s₁ => obj = .ref s.heap.objs.size ∧ s₁ = { s with heap := s.heap.push { cls := .type "list", data := .seq #[] } }) F.called_list (F.typeCall_list_1 _) F.entry_list_init
    (code_list_new _ ⟨rfl, rfl⟩) fun obj s₁ e₁ => ?_
  obtain ⟨rfl, rfl⟩ := e₁
  have hS : (s.heap.push { cls := .type "list", data := .seq #[] }).get? s.heap.objs.size = some { cls := .type "list", data := .seq #[] } := Heap.get?_push_size _ rfl
  have lt : ∀ {c o}, s.heap.get? c = some o → c ≠ s.heap.objs.size := fun e => Nat.ne_of_lt (Heap.lt_size e)
  have kp : ∀ c o, s.heap.get? c = some o → (s.heap.push { cls := .type "list", data := .seq #[] }).get? c = some o := fun c o e => Heap.get?_push_of_some _ e
  have m1 : i1 ≠ s.heap.objs.size := let ⟨_, e, _⟩ := h1; lt e
  have m2 : i2 ≠ s.heap.objs.size := let ⟨_, e, _⟩ := h2; lt e
  have m3 : l1 ≠ s.heap.objs.size := let ⟨_, e, _⟩ := hl1; lt e
  have m4 : l2 ≠ s.heap.objs.size := let ⟨_, e, _⟩ := hl2; lt e
  have hd : TI ≠ s.heap.objs.size ∧ i1 ≠ s.heap.objs.size ∧ i2 ≠ s.heap.objs.size ∧ l1 ≠ s.heap.objs.size ∧ l2 ≠ s.heap.objs.size ∧ z ≠ s.heap.objs.size ∧ TO ≠ s.heap.objs.size := ⟨lt hTI, m1, m2, m3, m4, lt hz, lt hTO⟩
  refine ⟨⟨_, hS, rfl⟩, F.args_list_init_2 _ _, init_zip (A := A.in1) (s := { s with heap := s.heap.push { cls := .type "list", data := .seq #[] } }) hh D hn hd (kp _ _ hz) ⟨kp _ _ hTI, h1.at fun o e => kp _ o e, h2.at fun o e => kp _ o e, hl1.at fun o e => kp _ o e, hl2.at fun o e => kp _ o e, ⟨a, b, kp _ _ hTO⟩, .inl (kp _ _ hz)⟩ hS fun h' tk acc c hk hD ha => ⟨rfl, hQ h' tk acc c (fun b o n1 n2 n3 n4 e => hk b o (lt e) n1 n2 n3 n4 (kp b o e)) hD ha⟩⟩
end
/-- several new objects at once -/
theorem inv_more {X : Cx} {pins : List (Addr × Obj)} {σ : L2.St} {H H' : Hp} {s : Shared} {h' : Heap} {t' : Nat} (I : Inv X pins σ H s) (k : ∀ b u, s.heap.get? b = some u → h'.get? b = some u) (e : Ex H H') (n : ∀ b o, H' b = some o → H b = some o ∨ (s.heap.objs.size ≤ b ∧ ObjOk X.prog X.w H' h' b o)) :
    Inv X pins σ H' { s with heap := h', toks := t' } := by
  refine I.un ⟨fun b u q _ _ _ => k b u q, fun b u q _ _ _ => ⟨u.slots, k b u q⟩, fun b u q hn _ => ?_, fun b u q _ => ⟨u, k b u q⟩, fun b xs q => e b _ q, fun b u xs q => e b _ q, fun b ps q => ⟨#[], by rw [e b _ q]; simp⟩⟩ fun b o hb => ?_
  · cases q2 : H' b with
    | none => rfl
    | some o =>
      rcases n b o q2 with z | z
      · rw [hn] at z; cases z
      · exact absurd (Heap.lt_size q) (Nat.not_lt.mpr z.1)
  · rcases n b o hb with z | z
    · exact (I.hok b o z).stay (fun c u _ q => k c u q) (fun c q => e c _ q) fun c xs q => e c _ q
    · exact z.2

/-- new objects -/
def putL (H : Hp) : List (Addr × HO) → Hp
  | [] => H
  | (a, o) :: r => upd (putL H r) a o
theorem putL_none {H : Hp} {c : Addr} : ∀ {l : List (Addr × HO)}, c ∉ l.map (·.1) → putL H l c = H c
  | [], _ => rfl
  | (a, o) :: r, h => by
    rw [List.map_cons, List.mem_cons, not_or] at h
    show upd (putL H r) a o c = _
    rw [upd_ne h.1, putL_none h.2]
theorem putL_some {H : Hp} {c : Addr} {u : HO} : ∀ {l : List (Addr × HO)}, putL H l c = some u → (c, u) ∈ l ∨ (c ∉ l.map (·.1) ∧ H c = some u)
  | [], h => .inr ⟨by simp, h⟩
  | (a, o) :: r, h => by
    by_cases e : c = a
    · subst e
      have h' : upd (putL H r) c o c = some u := h
      rw [upd_same] at h'
      cases h'
      exact .inl List.mem_cons_self
    · have h' : upd (putL H r) a o c = some u := h
      rw [upd_ne e] at h'
      rcases putL_some h' with q | q
      · exact .inl (List.mem_cons_of_mem _ q)
      · refine .inr ⟨?_, q.2⟩
        rw [List.map_cons, List.mem_cons, not_or]
        exact ⟨e, q.1⟩
theorem putL_mem {H : Hp} : ∀ {l : List (Addr × HO)} {c : Addr} {u : HO}, (l.map (·.1)).Nodup → (c, u) ∈ l → putL H l c = some u
  | [], _, _, _, h => nomatch h
  | (a, o) :: r, c, u, hn, h => by
    rw [List.map_cons, List.nodup_cons] at hn
    show upd (putL H r) a o c = _
    rcases List.mem_cons.mp h with e | e
    · cases e; exact upd_same
    · have : c ≠ a := fun z => hn.1 (z ▸ List.mem_map.mpr ⟨_, e, rfl⟩)
      rw [upd_ne this, putL_mem hn.2 e]
def zipT (Ts : List Addr) (xs ys : List V) : List (Addr × HO) := (Ts.zip (xs.zip ys)).map fun t => (t.1, .tup [t.2.1, t.2.2])
theorem zipT_addr {Ts : List Addr} {xs ys : List V} (h : Ts.length = min xs.length ys.length) : (zipT Ts xs ys).map (·.1) = Ts := by
  unfold zipT
  rw [List.map_map]
  show (Ts.zip (xs.zip ys)).map Prod.fst = Ts
  rw [List.map_fst_zip]
  rw [List.length_zip]; omega
theorem zipT_mem {Ts : List Addr} {xs ys : List V} {c : Addr} {u : HO} (h : (c, u) ∈ zipT Ts xs ys) : ∃ (j : Nat) (x y : V), Ts[j]? = some c ∧ xs[j]? = some x ∧ ys[j]? = some y ∧ u = .tup [x, y] := by
  unfold zipT at h
  obtain ⟨⟨t, x, y⟩, hm, e⟩ := List.mem_map.mp h
  cases e
  obtain ⟨j, hj, ej⟩ := List.getElem_of_mem hm
  have := (List.getElem?_eq_some_iff.mpr ⟨hj, ej⟩)
  obtain ⟨h1, h2⟩ := List.getElem?_zip_eq_some.mp this
  obtain ⟨h3, h4⟩ := List.getElem?_zip_eq_some.mp h2
  exact ⟨j, x, y, h1, h3, h4, rfl⟩
theorem vals_refs : ∀ Ts : List Addr, Vals (Ts.map V.ref) (Ts.map Value.ref)
  | [] => .nil
  | _ :: ts => .cons rfl (vals_refs ts)
section
variable {X : Cx}
def tLstZip (K : PySem.W.Frag) (ta : TA) : TE := fun σ H Q => ta σ H fun vs H1 => ∃ a b xs ys, vs = [.ref a, .ref b] ∧ SqL K H1 a xs ∧ SqL K H1 b ys ∧
  ∀ (Ts : List Addr) (p : Addr), Ts.Nodup → Ts.length = min xs.length ys.length → (∀ T, T ∈ Ts → H1 T = none) → H1 p = none → p ∉ Ts → Q (.ref p) (upd (putL H1 (zipT Ts xs ys)) p (.lst (Ts.map V.ref)))
theorem pe_listZip {e e2 : Expr} {ta : TA} {p p2 pos pos2 : Pos} (hc : X.calm = true) (hg : Gl X "list") (hm : X.mg "list" = none) (hg2 : Gl X "zip") (hm2 : X.mg "zip" = none) (ha : PA X [e, e2] ta)
    (hs : starEach [e, e2] X.env = (false, eval e X.env) :: starEach [e2] X.env := by rfl) (hpl : (backTo pos2 (starEach [e2] X.env)).any (·.1) = false := by rfl)
    (na : starEach [.Call (.Name "zip" p2) [e, e2] [] pos2] X.env = (false, eval (.Call (.Name "zip" p2) [e, e2] [] pos2) X.env) :: starEach [] X.env := by rfl) :
    PE X (.Call (.Name "list" p) [.Call (.Name "zip" p2) [e, e2] [] pos2] [] pos) (tLstZip X.K ta) := by
  refine ⟨fun pins s σ H Q I h => ?_⟩
  refine Call_ (ld_blt I hg hm boot_list (PyProof.Rows.callWith_type1 (args_cons (Call_ (ld_blt I hg2 hm2 PyProof.Rows.boot_zip (PyProof.Rows.callWith_type1 (thn (ha.run pos2 pins s σ H _ I h) fun us s1 ⟨vs, H1, I1, r1, q1⟩ => ?_) hs hpl))) na) na))
  obtain ⟨a, b, xs, ys, ex, hqx, hqy, q⟩ := q1
  subst ex
  cases r1 with
  | cons r rr =>
    cases rr with
    | cons r' rr =>
      cases rr
      cases r
      cases r'
      obtain ⟨its, rv, p1, hz1⟩ := I1.list hqx
      obtain ⟨its2, rv2, p2, hz2⟩ := I1.list hqy
      have la : a < s1.heap.objs.size := p1.lt
      have lb : b < s1.heap.objs.size := p2.lt
      refine call_zip_2 p1.isList p2.isList fun h' hz hTI hTO h1 h2 hsz hk => args_nil ?_
      have hl1 : h'.IsList a its.toArray := p1.isList.at fun o e => hk _ o e
      have hl2 : h'.IsList b its2.toArray := p2.isList.at fun o e => hk _ o e
      have hmin : min its.toArray.size its2.toArray.size = min xs.length ys.length := by rw [List.size_toArray, List.size_toArray, rv.length, rv2.length]
      refine call_list_zip (s := { s1 with heap := h' }) (I1.ok.hd hc) (PySem.W.ktu_apart s1.heap.objs.size a b la lb) (by rw [hmin]; omega) hz hTI hTO h1 h2 hl1 hl2 fun h'' tk acc c hk2 hD hacc => ?_
      obtain ⟨Ts, t1, t2, t3, t4⟩ := hacc
      have szE : ({ s1 with heap := h' } : Shared).heap.objs.size = s1.heap.objs.size + 5 := hsz
      have kp : ∀ b o, s1.heap.get? b = some o → h''.get? b = some o := fun b o e => by
        have := Heap.lt_size e
        have ne : ∀ n, b ≠ s1.heap.objs.size + n := fun n => Nat.ne_of_lt (Nat.lt_of_lt_of_le this (Nat.le_add_right _ _))
        exact hk2 b o (ne 4) (ne 3) (ne 0) (ne 1) (hk b o e)
      have big : ∀ T, T ∈ Ts → s1.heap.objs.size ≤ T := fun T hT => by
        obtain ⟨j, hj, ej⟩ := List.getElem_of_mem hT
        obtain ⟨x, y, _, _, _, e5, _⟩ := t4 j T (by rw [List.getElem?_eq_getElem hj, ej])
        rw [szE] at e5
        exact Nat.le_trans (Nat.le_add_right _ 5) (Nat.le_of_lt e5)
      have pbig : s1.heap.objs.size ≤ ({ s1 with heap := h' } : Shared).heap.objs.size := by rw [szE]; exact Nat.le_add_right _ 5
      generalize hpp : ({ s1 with heap := h' } : Shared).heap.objs.size = pp at t4 hD pbig
      have fr : ∀ T, s1.heap.objs.size ≤ T → H1 T = none := fun T hT => I1.hok.fresh hT
      have pT : pp ∉ Ts := fun z => by
        obtain ⟨j, hj, ej⟩ := List.getElem_of_mem z
        obtain ⟨x, y, _, _, _, e5, _⟩ := t4 j pp (by rw [List.getElem?_eq_getElem hj, ej])
        exact absurd e5 (Nat.lt_irrefl _)
      have hlen : Ts.length = min xs.length ys.length := t2.trans hmin
      refine ⟨.ref pp, upd (putL H1 (zipT Ts xs ys)) pp (.lst (Ts.map V.ref)), ?_, rfl, q Ts pp t3 hlen (fun T hT => fr T (big T hT)) (fr pp pbig) pT⟩
      have addr := zipT_addr hlen
      show Inv X pins σ _ { s1 with heap := h'', toks := tk }
      refine inv_more (s := s1) I1 kp (fun b o e => ?_) fun b o e => ?_
      · have n1 : b ≠ pp := fun z => by rw [z, fr pp pbig] at e; cases e
        rw [upd_ne n1, putL_none]
        · exact e
        · rw [addr]
          intro z
          rw [fr b (big b z)] at e; cases e
      · by_cases n1 : b = pp
        · subst n1
          rw [upd_same] at e
          cases e
          refine .inr ⟨pbig, ?_, Ts.map Value.ref, c, ?_, ?_⟩
          · rw [List.length_map, hlen]; omega
          · exact vals_refs Ts
          · rw [← t1, Array.toArray_toList]; exact hD
        · rw [upd_ne n1] at e
          rcases putL_some e with e | e
          · obtain ⟨j, x, y, e1, e2, e3, rfl⟩ := zipT_mem e
            obtain ⟨x', y', k1, k2, k3, k4, _⟩ := t4 j b e1
            obtain ⟨u1, f1, g1⟩ := rv.get e2
            obtain ⟨u2, f2, g2⟩ := rv2.get e3
            rw [List.getElem?_toArray, f1] at k1
            rw [List.getElem?_toArray, f2] at k2
            cases k1
            cases k2
            exact .inr ⟨big b (List.mem_of_getElem? e1), by show 2 ≤ sizeLine; rw [sizeLine_eq]; decide, [_, _], .cons g1 (.cons g2 .nil), _, k3, rfl, _, rfl⟩
          · exact .inl e.2
end
section
variable {X : Cx} {K : Nat → Addr} {c : C} {E : XK} {Γ : List Sl} {F F' H H' : Hp} {σ : L2.St} {pos : Pos} {ms : WP (List D)}
theorem ok_more : ∀ {l : List (Addr × HO)} {F H : Hp}, Ok K c F H σ Γ → (l.map (·.1)).Nodup → (∀ a, a ∈ l.map (·.1) → H a = none) → Ok K c (putL F l) (putL H l) σ Γ ∧ Gr c F H (putL F l) (putL H l)
  | [], F, H, o, _, _ => ⟨o, .refl⟩
  | (a, u) :: r, F, H, o, hn, hf => by
    rw [List.map_cons, List.nodup_cons] at hn
    obtain ⟨o1, g1⟩ := ok_more (l := r) o hn.2 fun b hb => hf b (by rw [List.map_cons]; exact List.mem_cons_of_mem _ hb)
    have hp : putL H r a = none := by rw [putL_none hn.1]; exact hf a (by rw [List.map_cons]; exact List.mem_cons_self)
    exact ⟨o1.alloc hp, g1.trans (.new (ex_none o1.bs.fh hp) hp)⟩
/-- list(zip(a, b)), a new list -/
theorem o_listZip {e e2 : Expr} {p p2 pos2 : Pos} (hc : X.calm = true) (hg : Gl X "list") (hm : X.mg "list" = none) (hg2 : Gl X "zip") (hm2 : X.mg "zip" = none) (ha : PA X [e, e2] (tA K c E Γ ms))
    (hs : starEach [e, e2] X.env = (false, eval e X.env) :: starEach [e2] X.env := by rfl) (hpl : (backTo pos2 (starEach [e2] X.env)).any (·.1) = false := by rfl)
    (na : starEach [.Call (.Name "zip" p2) [e, e2] [] pos2] X.env = (false, eval (.Call (.Name "zip" p2) [e, e2] [] pos2) X.env) :: starEach [] X.env := by rfl) :
    PE X (.Call (.Name "list" p) [.Call (.Name "zip" p2) [e, e2] [] pos2] [] pos) (tO K c E Γ (ms.bind fun ds => .opt (dZip ds))) :=
  pe_weak (pe_listZip hc hg hm hg2 hm2 ha hs hpl na) fun σ H Q ⟨F, o, r⟩ => by
    refine ⟨F, o, ms.mono _ _ _ _ (fun ds q vs F1 H1 o1 g1 x1 => ?_) (fun _ z => z) r⟩
    obtain ⟨es, hd, q⟩ := WP.opt_run q
    unfold dZip at hd
    split at hd
    · rename_i xs ys
      cases hd
      cases x1 with
      | cons h1 t1 => cases t1 with
        | cons h2 t2 =>
          cases t2
          cases h1 with
          | lst q1 t1 =>
            cases h2 with
            | lst q2 t2 =>
              rename_i a us b ws
              refine ⟨a, b, us, ws, rfl, .inl (.inl (o1.bs.fh _ _ q1)), .inl (.inl (o1.bs.fh _ _ q2)), fun Ts p hn hl hf hp hpT => ?_⟩
              have addr := zipT_addr hl
              obtain ⟨o2, g2⟩ := ok_more (l := zipT Ts us ws) o1 (by rw [addr]; exact hn) (by rw [addr]; exact hf)
              refine q p _ _ _ o2 (g1.trans g2) (by rw [putL_none (by rw [addr]; exact hpT)]; exact hp) ?_
              have key : ∀ (Ts : List Addr) (us ws : List V) (xs ys : List D), RpAll K F1 us xs → RpAll K F1 ws ys → Ts.length = min us.length ws.length → ∀ F2 : Hp, Ex F1 F2 → (∀ t u, (t, u) ∈ zipT Ts us ws → F2 t = some u) → RpAll K F2 (Ts.map V.ref) ((xs.zip ys).map fun p => .tuple [p.1, p.2]) := by
                intro Ts
                induction Ts with
                | nil =>
                  intro us ws xs ys r1 r2 hl F2 _ _
                  have : (xs.zip ys) = [] := by
                    apply List.eq_nil_of_length_eq_zero
                    rw [List.length_zip, ← dps_len r1, ← dps_len r2, ← hl]
                    rfl
                  rw [this]
                  exact .nil
                | cons t Ts ih =>
                  intro us ws xs ys r1 r2 hl F2 eF hT
                  cases r1 with
                  | nil => simp at hl
                  | cons a1 r1 => cases r2 with
                    | nil => simp at hl
                    | cons a2 r2 =>
                      exact .cons (.tup (hT t _ List.mem_cons_self) (.cons (dp_mono eF a1) (.cons (dp_mono eF a2) .nil))) (ih _ _ _ _ r1 r2 (by simp at hl; omega) F2 eF fun t u hm => hT t u (List.mem_cons_of_mem _ hm))
              exact key Ts us ws xs ys t1 t2 hl _ g2.f fun t u hm => putL_mem (by rw [addr]; exact hn) hm
    · cases hd
end
end GA
namespace GA
open PySem PySem.Spec PyProof.Rows L2
/-- a caught error of the class cls at a -/
def excO (cls : Value) (a : Addr) : HO := .ext fun h => ∃ o vs, h.get? a = some o ∧ o.cls = cls ∧ o.dict = none ∧ o.data = .fields vs
theorem excO_ok {P : Program} {w : World} {H : Hp} {h : Heap} {a : Addr} {cls : Value} {oe : Obj} {vs : Array Value} (e : h.get? a = some oe) (z : Zc cls none oe) (d : oe.data = .fields vs) : ObjOk P w H h a (excO cls a) :=
  ⟨⟨oe, vs, e, z.1, z.2, d⟩, ⟨oe, e⟩, fun _ _ ⟨o, v, q, r⟩ k => ⟨o, v, k o q, r⟩⟩
section
variable {X : Cx} {pins : List (Addr × Obj)} {σ : L2.St} {H H' : Hp} {s s' sI : Shared} {B : Heap}
theorem landedX {a : Addr} {o : HO} (I : Inv X pins σ H sI) (nb : ∀ b o, sI.heap.get? b = some o → b ∉ frs X.stack → B.get? b = some o) (st : B.StaysIn s'.heap) (up : sI.heap.UpToSlots s'.heap) (os : s'.os = sI.os) (ag : AllBare s'.gens) (na : sI.heap.get? a = none) (nH : H a = none)
    (new : ObjOk X.prog X.w (upd H a o) s'.heap a o) : Inv X pins σ (upd H a o) s' := by
  have nf : ∀ b ∈ frs X.stack, ∀ o, sI.heap.get? b = some o → ∃ sl, s'.heap.get? b = some { o with slots := sl } := fun b hb o e => by
    obtain ⟨_, o', e', hd⟩ := I.stack.mem hb
    rw [e] at e'; cases e'
    exact up b o e hd
  have ne : ∀ b u, sI.heap.get? b = some u → b ≠ a := fun b u e z => by rw [z, na] at e; cases e
  have J := I.call (ch := []) (h' := s'.heap) (g' := s'.gens) (t' := s'.toks) (d' := s'.drawn) (H' := upd H a o)
    ⟨fun b o e _ hb _ => st b o (nb b o e hb), fun b o e _ hb _ => nf b hb o e, fun b u e n _ => by rw [upd_ne (ne b u e)]; exact n, fun b o e _ => by
      by_cases hb : b ∈ frs X.stack
      · obtain ⟨sl, q⟩ := nf b hb o e
        exact ⟨_, q⟩
      · exact ⟨o, st b o (nb b o e hb)⟩, fun b xs e => by rw [upd_ne (ne_of_none e nH)]; exact e, fun b u xs e => by rw [upd_ne (ne_of_none e nH)]; exact e, fun b ps e => ⟨#[], by rw [upd_ne (ne_of_none e nH), e]; simp⟩⟩
    (HOk.laidN ((I.inGround nb).kept st) (fun _ _ e => e) nH new) ag (fun _ z => nomatch z)
  obtain ⟨a1, a2, a3, a4, a5⟩ := s'
  have e5 : a5 = sI.os := os
  subst e5
  exact J
theorem suite0 (I : Inv X pins σ H s) (a : Addr) : Inv (X.suite a (X.pn ++ pins)) [] σ H s :=
  ⟨I.ok.suite _ _, I.os, I.bare, I.base, I.loc, I.cell, I.free, I.freeC, fun p hp => I.pin p (by rw [List.append_nil] at hp; exact hp), I.hok, I.len⟩
theorem unsuite0 {a : Addr} {pn' : List (Addr × Obj)} (I : Inv (X.suite a (X.pn ++ pins)) pn' σ H s) (ok : X.Ok) : Inv X pins σ H s :=
  ⟨ok, I.os, I.bare, I.base, I.loc, I.cell, I.free, I.freeC, fun p hp => I.pin p (List.mem_append_left _ hp), I.hok, I.len⟩
end
/-- what the clause 'except x as n: ..' wishes, the error told as a thing of the heap -/
def wKeep (K : PySem.W.Frag) (c : Value) (i : Nat) (ts : TS) (Wout : WX) (D : Ends) : WX := fun cls d σ H =>
  d = none ∧ PySem.W.exmOne K cls c = some true ∧ ∀ a, H a = none → ts { nx := fun σ' H' => D.nx (σ'.set i none) H', rt := D.rt, bk := fun σ' H' => D.bk (σ'.set i none) H', ct := fun σ' H' => D.ct (σ'.set i none) H' } (σ.set i (some (.ref a))) (upd H a (excO cls a))
section
variable {X : Cx} {x n : Str} {c : Value} {i : Nat} {body suite : List Stmt} {b₀ : Stmt} {np pos pos' : Pos} {tb : WX → TS} {ts : TS} {Wout : WX}
theorem ps_try_keep (hs : X.stack = X.env :: X.outer) (hf : X.env.frame = some X.env.locals) (hN : X.N.Nodup) (hi : X.N[i]? = some n) (hln : X.env.kindOf n = some .local) (hc : Names X x c)
    (hb : ∀ (W : WX) (pn : List (Addr × Obj)) (xe : Value → Shared → Prop), Takes (X.tr pn xe) W → PassesOwn (model X.prog X.w) X.A X.env xe → PSs (X.tr pn xe) body (tb W))
    (hsu : ∀ (a : Addr) (pn : List (Addr × Obj)), PSs (X.suite a pn) (b₀ :: suite) ts) :
    PS X (.Try body [.ExceptHandler (some (.Name x np)) (some n) (b₀ :: suite) pos'] [] [] pos) (fun D σ H => tb (wKeep X.K c i ts Wout D) D σ H) := by
  refine ⟨fun pins s σ H D I h => ?_⟩
  have ok := I.ok
  have hfr : X.A.frames = some (X.env :: X.outer) := by rw [ok.frames, hs]
  have hloc : Loc X.env.scope n := .inl hln
  refine wpAny_Try_except ?_
  refine wpAny_mono ((hb (wKeep X.K c i ts Wout D) (X.pn ++ pins) (fun e s₁ => wpAny (model X.prog X.w) X.A (noteFrame e X.env) (fun _ s₂ => wpAny (model X.prog X.w) X.A (setFlight e none) (fun _ s₃ =>
    wpAny (model X.prog X.w) X.A (handleBy e X.env [.ExceptHandler (some (.Name x np)) (some n) (b₀ :: suite) pos']) (SP X pins D) X.xe s₃) X.xe s₂) X.xe s₁) (fun u s' xx => ?_) PassesOwn.looking).run [] s σ H D (I.toTry _) h) (fun f s1 hsp => ?_) (fun e s1 he => he)
  · obtain ⟨a, B, sI, pins', σ', H', cls, d, rfl, J', nb, up, sky, na, os, ag, rfl, hb1, hyes⟩ := xx
    have J : Inv X pins σ' H' sI := J'.ofTry ok
    have sky' : Sky B (X.env :: X.outer) a (Zc cls none) X.env.locals s'.heap := by rw [← hs]; exact sky
    show wpAny (model X.prog X.w) X.A (noteFrame (.ref a) X.env) _ _ _
    refine Sky.land Zc.steady hfr hf sky' fun h3 fl3 up3 => ?_
    obtain ⟨oe3, vs3, he3, hz3, hd3⟩ := fl3.there
    have notFr : ∀ {h : Heap} {o : Obj} {vs : Array Value}, h.FunFrames B (X.env :: X.outer) → h.get? a = some o → o.data = .fields vs → a ∉ frs (X.env :: X.outer) := fun {h o vs} ff e dd hm => by
      obtain ⟨_, o', e', hnf⟩ := ff.mem hm
      rw [e] at e'; cases e'
      exact hnf _ dd
    have nfr := notFr fl3.2.2.1 he3 hd3
    have nI : sI.heap.get? a = none := by
      cases e : sI.heap.get? a with
      | none => rfl
      | some o =>
        have := nb a o e (by rw [hs]; exact nfr)
        rw [fl3.2.1] at this
        cases this
    have J3 : Inv X pins σ' (upd H' a (excO cls a)) { s' with heap := h3 } := landedX (s' := { s' with heap := h3 }) J nb fl3.1 (up.trans up3) os ag nI na (excO_ok he3 hz3 hd3)
    have S3 := suite0 J3 a
    refine wpAny_handleBy_cons (codeAny_handlers_test ?_) (by intro q; cases q)
    have LT : PySem.W.Looks (model X.prog X.w) h3 (typeOf (.ref a)) cls := fun A Q E s k q => wpAny_typeOf_ref (k _ _ he3) (by rw [hz3.1]; exact q)
    have LM := PySem.W.exm_one (M := model X.prog X.w) (J3.kIn) LT hb1
    have test : ∀ {Q : Value → Shared → Prop} {E : Value → Shared → Prop}, Q c { s' with heap := h3 } → wpAny (model X.prog X.w) (X.A.mark (some (.ref a))) (eval (.Name x np) X.env) Q E { s' with heap := h3 } := fun {Q E} q => by
      obtain ⟨hg, hdbg, hm | ⟨hm, hv, hnn⟩⟩ := hc
      · exact ld_glob (X := X.suite a (X.pn ++ pins)) S3 hg hm q hdbg
      · exact ld_blt (X := X.suite a (X.pn ++ pins)) S3 hg hm hv q hnn hdbg
    refine test (LM.here ?_)
    refine codeAny_handlers_suite_as ?_
    refine HandSPX.lands_againZ fl3 fun h4 fl4 up4 => ?_
    obtain ⟨oe4, vs4, he4, hz4, hd4⟩ := fl4.there
    have J4 : Inv X pins σ' (upd H' a (excO cls a)) { s' with heap := h4 } := landedX (s' := { s' with heap := h4 }) J nb fl4.1 ((up.trans up3).trans up4) os ag nI na (excO_ok he4 hz4 hd4)
    have S4 := suite0 J4 a
    refine store_ok (X := X.suite a (X.pn ++ pins)) (v := .ref a) S4 hN hi hloc rfl (fun s5 S5 => ?_) (.inr hln)
    refine wpAny_mono ((hsu a (X.pn ++ pins)).run [] s5 _ _ _ S5 (hyes a na)) (fun f s6 hsp => ?_) (fun _ _ z => False.elim z)
    have end_ : ∀ {σ6 : L2.St} {H6 : Hp} {Q : Shared → Prop}, Inv (X.suite a (X.pn ++ pins)) [] σ6 H6 s6 → (∀ s7, Inv X pins (σ6.set i none) H6 s7 → Q s7) →
        wpAny (model X.prog X.w) X.A (do bindName X.env n .none; unbindBehindTheSuite X.env n pos') (fun _ s7 => Q s7) X.xe s6 := fun {σ6 H6 Q} S6 hq => gone_ok (unsuite0 S6 ok) hN hi hln hq
    cases f with
    | next =>
      obtain ⟨σ6, H6, S6, q6⟩ := hsp
      exact end_ S6 fun s7 J7 => ⟨_, _, J7, q6⟩
    | brk =>
      obtain ⟨σ6, H6, S6, q6⟩ := hsp
      exact end_ S6 fun s7 J7 => ⟨_, _, J7, q6⟩
    | cont =>
      obtain ⟨σ6, H6, S6, q6⟩ := hsp
      exact end_ S6 fun s7 J7 => ⟨_, _, J7, q6⟩
    | ret u =>
      obtain ⟨v6, σ6, H6, S6, r6, q6⟩ := hsp
      exact end_ S6 fun s7 J7 => ⟨_, _, _, J7, r6, q6⟩
  · cases f with
    | next =>
      obtain ⟨σ', H', J', q⟩ := hsp
      exact wpAny_execs_nil ⟨σ', H', J'.ofTry ok, q⟩
    | brk =>
      obtain ⟨σ', H', J', q⟩ := hsp
      exact ⟨σ', H', J'.ofTry ok, q⟩
    | cont =>
      obtain ⟨σ', H', J', q⟩ := hsp
      exact ⟨σ', H', J'.ofTry ok, q⟩
    | ret u =>
      obtain ⟨v, σ', H', J', r, q⟩ := hsp
      exact ⟨v, σ', H', J'.ofTry ok, r, q⟩
end
end GA
namespace GA
open PySem PySem.Spec PyProof.Rows L2
theorem WP.noE_ret {α : Type} (a : α) : (WP.ret a).noE = WP.ret a := rfl
def WP.tryc {α β : Type} (fin : α → β) (fer : Nat → β) (m : WP α) : WP β := ⟨fun P _ => m.run (fun a => P (fin a)) (fun k => k < 5 ∧ P (fer k)), fun P P' E E' h g p => m.mono _ _ _ _ (fun a q => h _ q) (fun k q => ⟨q.1, h _ q.2⟩) p⟩
def R.tryc {α β : Type} (fin : α → β) (fer : Nat → β) : R α → R β
  | .ok a => .ok (fin a)
  | .err k => if k < 5 then .ok (fer k) else .bad
  | .bad => .bad
theorem WP.lift_tryc {α β : Type} (fin : α → β) (fer : Nat → β) (r : R α) : WP.lift (R.tryc fin fer r) = WP.tryc fin fer (WP.lift r) := by
  cases r with
  | ok a => rfl
  | err k =>
    show WP.lift (if k < 5 then R.ok (fer k) else R.bad) = _
    by_cases h : k < 5
    · rw [if_pos h]
      unfold WP.lift WP.tryc
      congr 1
      funext P E
      simp [h]
    · rw [if_neg h]
      unfold WP.lift WP.tryc
      congr 1
      funext P E
      simp [h]
  | bad => rfl
/-- an error of the kind k as data -/
abbrev dExc (k : Nat) : D := .dict [(.int (k : Int), .none)]
/-! within a try: what is wanted of an error is told with the slots as they are -/
def tWT (K : Nat → Addr) (c : C) (W : WX) (Γ : List Sl) (m : WP D) : TE := fun σ H Q => ∃ F, Ok K c F H σ Γ ∧ m.run (fun d => ∀ v F' H', Ok K c F' H' σ Γ → Gr c F H F' H' → Rp K F' v d → Q v H') (fun k => ∀ F' H', Ok K c F' H' σ Γ → Ex F F' → W (.ref (K k)) none σ H')
def tXT (K : Nat → Addr) (c : C) (W : WX) (Γ : List Sl) {α : Type} (m : WP α) (G : α → List Sl) : TS := fun D σ H => ∃ F, Ok K c F H σ Γ ∧ m.run (fun a => ∀ σ' F' H', Ok K c F' H' σ' (G a) → Ex F F' → D.nx σ' H') (fun k => ∀ F' H', Ok K c F' H' σ Γ → Ex F F' → W (.ref (K k)) none σ H')
section
variable {X : Cx} {K : Nat → Addr} {c : C} {W : WX} {Γ Γ' : List Sl} {F F' H H' : Hp} {σ : L2.St} {pos : Pos} {e a b t : Expr} {es : List Expr} {ms : WP (List D)} {m ma mb : WP D} {qa : WP Bool} {A B rest : List Stmt} {α β : Type}
theorem e_callT {k : Nat} {f : Addr} {fd : FuncData} {ps : List Str} {x : Str} {p : Pos} {fW : List D → WP D} {n : Nat} (tk : Takes X W) (G : FnOk X.prog X.w X.K X.mg X.base (CX X.prog X.w) k f fd ps (spW K n fW)) (hr : Room k X.A) (hg : Gl X x) (hm : X.mg x = some (.ref f)) (hk : PySem.W.keepIn X.K (.ref f) = true) (hb : Binds X.K fd ps [])
    (ha : PL X K c E0 Γ (e :: es) ms) (hl : (e :: es).length = n := by rfl) (hdb : (x == ("__debug__" : Str)) = false := by decide) (he : starEach (e :: es) X.env = (false, eval e X.env) :: starEach es X.env := by rfl) (hpl : (backTo pos (starEach es X.env)).any (·.1) = false := by rfl) :
    PE X (.Call (.Name x p) (e :: es) [] pos) (tWT K c W Γ (ms.noE.bind fW)) :=
  pe_weak (pe_callS G hr hg hm hk hb (fun σ => passAt tk σ) ha.pa hdb he hpl) fun σ H Q ⟨F, o, r⟩ => by
    refine ⟨F, o, ms.mono _ _ _ _ (fun ds ⟨l, r⟩ vs F1 H1 o1 g1 x1 => ?_) (fun _ z => z.elim) (ha.ln _ _ r)⟩
    refine ⟨F1, ds, o1.bs.fh, x1, l.trans hl, (fW ds).mono _ _ _ _ (fun d p v F' H' eh ef efh nw rp => ?_) (fun k p H' eh => ?_) r⟩
    · exact p v F' H' (o1.grow eh ef efh nw) (g1.trans ⟨ef, fun a u h _ => eh a u h, fun a u h _ => nw a u h⟩) rp
    · exact p F1 H' (o1.grow eh (exR F1) (exT o1.bs.fh eh) fun a u h => .inl h) g1.f
theorem e_ifT (hq : PT X t (tT K c E0 Γ qa)) (ha : PE X a (tWT K c W Γ ma)) (hb : PE X b (tWT K c W Γ mb)) : PE X (.IfExp t a b pos) (tWT K c W Γ (qa.noE.bind fun x => if x = true then ma else mb)) :=
  pe_weak (pe_ifExp hq ha hb) fun σ H Q h => by
    obtain ⟨F, o, hw⟩ := h
    refine ⟨F, o, qa.mono _ _ _ _ (fun d p F1 H1 o1 g1 => ?_) (fun _ z => z.elim) hw⟩
    cases d with
    | true => exact ⟨F1, o1, ma.mono _ _ _ _ (fun d p v F2 H2 o2 g2 x2 => p v F2 H2 o2 (g1.trans g2) x2) (fun _ z F2 H2 o2 e2 => z F2 H2 o2 (exT g1.f e2)) p⟩
    | false => exact ⟨F1, o1, mb.mono _ _ _ _ (fun d p v F2 H2 o2 g2 x2 => p v F2 H2 o2 (g1.trans g2) x2) (fun _ z F2 H2 o2 e2 => z F2 H2 o2 (exT g1.f e2)) p⟩
theorem s_asgT (i : Nat) {x : Str} {pos' : Pos} (hN : X.N.Nodup) (hi : X.N[i]? = some x) (hx : Loc X.env.scope x) (h : PE X e (tWT K c W Γ m)) (hs : swapsWith e (some (.Name x pos')) pos.line X.env = pure false := by rfl) (hf : X.fn x = true ∨ X.env.scope.names.lookup x = some .local := by first | exact .inl rfl | exact .inr rfl | assumption) :
    PSs X [.Assign [.Name x pos'] e pos] (tXT K c W Γ m fun d => Γ.set i (.imm d)) :=
  pss_weak (pss_one (ps_set hN hi hx h hs hf)) fun D σ H ⟨F, o, r⟩ => ⟨F, o, m.mono _ _ _ _ (fun d p v F' H' o' g x => p _ F' H' (o'.set x) g.f) (fun _ z => z) r⟩
theorem s_dropT (h : PE X e (tWT K c W Γ m)) (hs : swapsWith e none pos.line X.env = pure false := by rfl) : PSs X [.Expr e pos] (tXT K c W Γ (m.bind fun _ => .ret ()) fun _ => Γ) :=
  pss_weak (pss_one (ps_expr h hs)) fun D σ H ⟨F, o, r⟩ => ⟨F, o, m.mono _ _ _ _ (fun d p v F' H' o' g x => p σ F' H' o' g.f) (fun _ z => z) r⟩
theorem s_ifT {xa xb : WP α} {G : α → List Sl} (ht : PT X t (tT K c E0 Γ qa)) (ha : PSs X A (tXT K c W Γ xa G)) (hb : PSs X B (tXT K c W Γ xb G)) : PSs X [.If t A B pos] (tXT K c W Γ (qa.noE.bind fun b => if b = true then xa else xb) G) :=
  pss_weak (pss_one (ps_if ht ha hb)) fun D σ H ⟨F, o, r⟩ => ⟨F, o, qa.mono _ _ _ _ (fun b p F1 H1 o1 g1 => by
    cases b with
    | true => exact ⟨F1, o1, xa.mono _ _ _ _ (fun d p v F2 H2 b2 e2 => p v F2 H2 b2 (exT g1.f e2)) (fun _ z F2 H2 o2 e2 => z F2 H2 o2 (exT g1.f e2)) p⟩
    | false => exact ⟨F1, o1, xb.mono _ _ _ _ (fun d p v F2 H2 b2 e2 => p v F2 H2 b2 (exT g1.f e2)) (fun _ z F2 H2 o2 e2 => z F2 H2 o2 (exT g1.f e2)) p⟩) (fun _ z => z.elim) r⟩
/-- try: BODY except X as n: y = n -/
theorem s_try (i j : Nat) {E : XK} {x n y : Str} {C : Addr} {G : α → List Sl} {m : WP α} {fin : α → β} {fer : Nat → β} {G' : β → List Sl} {np pn2 py pos' pa : Pos} {body : List Stmt} (hs : X.stack = X.env :: X.outer) (hf : X.env.frame = some X.env.locals) (hN : X.N.Nodup) (hi : X.N[i]? = some n) (hj : X.N[j]? = some y) (hij : i ≠ j) (hln : X.env.kindOf n = some .local) (hly : X.env.kindOf y = some .local)
    (hgx : Gl X x) (hmx : X.mg x = some (.ref C)) (hexm : ∀ k, k < 5 → PySem.W.exmOne X.K (.ref (K k)) (.ref C) = some true)
    (hb : ∀ (W : WX) (pn : List (Addr × Obj)) (xe : Value → Shared → Prop), Takes (X.tr pn xe) W → PSs (X.tr pn xe) body (tXT K c W Γ m G))
    (l1 : ∀ a, Le (G a) (G' (fin a))) (l2 : ∀ k, Le (((Γ.set i .non).set j (.imm (dExc k))).set i .non) (G' (fer k)))
    (hdx : (x == ("__debug__" : Str)) = false := by decide) (hdn : (n == ("__debug__" : Str)) = false := by decide) (hdc : (n == ("__classdict__" : Str)) = false := by decide)
    (hi' : Nat.ble (i + 1) Γ.length = true := by rfl)
    (hsw : ∀ (a : Addr) (pn : List (Addr × Obj)), swapsWith (.Name n pn2) (some (.Name y py)) pa.line (X.suite a pn).env = pure false := by intros; rfl) :
    PS X (.Try body [.ExceptHandler (some (.Name x np)) (some n) [.Assign [.Name y py] (.Name n pn2) pa] pos'] [] [] pos) (tX K c E Γ (m.tryc fin fer) G') := by
  refine ps_weak (ps_try_keep (c := .ref C) (i := i) (tb := fun W => tXT K c W Γ m G) (ts := tAsg (tVar i) (gName j)) (Wout := fun _ _ _ _ => False) hs hf hN hi hln ⟨hgx, hdx, .inl hmx⟩ (fun W pn xe tk _ => hb W pn xe tk) (fun a pn => pss_one (ps_set (X := X.suite a pn) (i := j) hN hj (.inl hly) (pe_var (X := X.suite a pn) hi (.inl hln) hdn hdc) (hsw a pn) (.inr hly)))) fun D σ H ⟨F, o, r⟩ => ?_
  refine ⟨F, o, m.mono _ _ _ _ (fun a p σ' F' H' o' e => p σ' F' H' (o'.le (l1 a)) e) (fun k ⟨hk, p⟩ F' H' o' e => ⟨rfl, hexm k hk, fun a na => ?_⟩) r⟩
  have hl : i < σ.length := by obtain ⟨π, z⟩ := o'; rw [z.len]; exact Nat.le_of_ble_eq_true hi'
  have o1 : Ok K c (upd F' a (excO (.ref (K k)) a)) (upd H' a (excO (.ref (K k)) a)) σ Γ := o'.alloc na
  have rp : Rp K (upd F' a (excO (.ref (K k)) a)) (.ref a) (dExc k) := .exc upd_same fun h ph => ph
  have o2 := ((o1.setN (i := i) (v := some (.ref a))).set (i := j) rp).setN (i := i) (v := none)
  exact ⟨.ref a, List.getElem?_set_self hl, p _ _ _ (o2.le (l2 k)) (exT e (Evl.Ex.new (ex_none o'.bs.fh na)))⟩
end
/-! isinstance of a caught error -/
structure ExT (W : PySem.W.Frag) (K : Nat → Addr) : Prop where
  c : ∀ k, k < 5 → ExcC W (K k)
  kit : ∀ k j, k < 5 → j < 6 → PySem.W.kitOne W (.ref (K k)) (.ref (K j)) = some (decide (k = j) || decide (j = 5))
  kv : ∀ k, k < 5 → PySem.W.kitOne W (.ref (K k)) (.type "ValueError") = some true
  exm : ∀ k, k < 5 → PySem.W.exmOne W (.ref (K k)) (.ref (K 5)) = some true
def eqOB (a b : Option Bool) : Bool := decide (a = b)
def exTB (W : PySem.W.Frag) (K : Nat → Addr) : Bool := (List.range 5).all fun k =>
  (He.eqO (PySem.W.findIn W (.ref (K k)) "__getattribute__") (some (some (.builtin "BaseException.__getattribute__"))) && (He.eqO (PySem.W.findIn W (.ref (K k)) "__getattr__") (some none) && (eqOB (PySem.W.subIn W (.ref (K k)) (.type "BaseException")) (some true) && (PySem.W.hasDictIn W (K k) &&
  (He.eqO (PySem.W.findIn W (.ref (K k)) "__class__") (some (some (.builtin "object.__class__"))) && (He.eqO (PySem.W.specialIn W (.builtin "object.__class__") "__get__") (some (some (.builtin "getset_descriptor.__get__"))) && (eqOB (PySem.W.takesIn W (.builtin "object.__class__")) (some true) && eqOB (PySem.W.mroIn W (K k) (.type "object")) (some true)))))))) &&
  (((List.range 6).all fun j => eqOB (PySem.W.kitOne W (.ref (K k)) (.ref (K j))) (some (decide (k = j) || decide (j = 5)))) && (eqOB (PySem.W.kitOne W (.ref (K k)) (.type "ValueError")) (some true) && eqOB (PySem.W.exmOne W (.ref (K k)) (.ref (K 5))) (some true)))
theorem exTB_ok {W : PySem.W.Frag} {K : Nat → Addr} (h : exTB W K = true) : ExT W K := by
  have key : ∀ k, k < 5 → _ := fun k hk => List.all_eq_true.mp h k (List.mem_range.mpr hk)
  have eB : ∀ {a b : Option Bool}, eqOB a b = true → a = b := fun h => of_decide_eq_true h
  refine ⟨fun k hk => ?_, fun k j hk hj => ?_, fun k hk => ?_, fun k hk => ?_⟩
  · obtain ⟨h1, h2⟩ := He.ba (He.ba (key k hk)).1
    obtain ⟨h2, h3⟩ := He.ba h2
    obtain ⟨h3, h4⟩ := He.ba h3
    obtain ⟨h4, h5⟩ := He.ba h4
    obtain ⟨h5, h6⟩ := He.ba h5
    obtain ⟨h6, h7⟩ := He.ba h6
    obtain ⟨h7, h8⟩ := He.ba h7
    exact ⟨He.eqO_ok h1, He.eqO_ok h2, eB h3, h4, He.eqO_ok h5, He.eqO_ok h6, eB h7, eB h8⟩
  · exact eB (List.all_eq_true.mp (He.ba (He.ba (key k hk)).2).1 j (List.mem_range.mpr hj))
  · exact eB (He.ba (He.ba (He.ba (key k hk)).2).2).1
  · exact eB (He.ba (He.ba (He.ba (key k hk)).2).2).2
def dIsX (j : Nat) : D → Option D
  | .dict [(.int k, .none)] => if 0 ≤ k ∧ k < 5 then some (.bool (decide (k = (j : Int)) || decide (5 ≤ j))) else none
  | _ => none
theorem dIsX_some {j : Nat} {d z : D} (h : dIsX j d = some z) : ∃ k : Nat, k < 5 ∧ d = dExc k ∧ z = .bool (decide (k = j) || decide (5 ≤ j)) := by
  unfold dIsX at h
  split at h
  · rename_i k
    split at h
    · rename_i hk
      cases h
      refine ⟨k.toNat, by omega, ?_, ?_⟩
      · unfold dExc
        rw [Int.toNat_of_nonneg hk.1]
      · congr 2
        exact decide_eq_decide.mpr (by omega)
    · cases h
  · cases h
def rIsX (K : PySem.W.Frag) : List V → Hp → VK → Prop := fun xs H Q => ∃ (a D : Addr) (φ : Heap → Prop) (c : V) (cv : Value) (b : Bool), xs = [.ref a, c] ∧ H a = some (.ext φ) ∧ (∀ h, φ h → ∃ o vs, h.get? a = some o ∧ o.cls = .ref D ∧ o.dict = none ∧ o.data = .fields vs) ∧ ExcC K D ∧ (∀ u, RelV c u → u = cv) ∧ PySem.W.kitOne K (.ref D) cv = some b ∧ Q (.bl b) H
theorem call_isX {X : Cx} : CallR X (.builtin "isinstance") (rIsX X.K) := by
  intro pins s σ H xs us Q I r h
  obtain ⟨a, D, φ, c, cv, b, rfl, hH, hφ, C, hcv, e, q⟩ := h
  cases r with
  | cons rx rr =>
    cases rr with
    | cons rt rr =>
      cases rr
      cases rx
      have ec := hcv _ rt
      subst ec
      obtain ⟨pf, _, _⟩ := I.hok a _ hH
      obtain ⟨oe, vs, hget, h1, h2, hv⟩ := hφ _ pf
      have J : PySem.W.InstAt s.heap a oe D none := by
        obtain ⟨oc, od, oda, osl⟩ := oe
        dsimp only at h1 h2 hv
        subst h1 h2 hv
        exact ⟨hget, rfl, rfl, trivial⟩
      exact PySem.W.kia_one (PySem.W.handS_kitx_exc C.hg C.hk C.hs C.hd C.ha C.hn C.ht C.hm) I.kIn J e (fun z => nomatch z) fun tk => ⟨.bl b, H, I.kept (t' := tk) fun _ _ z => z, rfl, q⟩
section
variable {X : Cx} {K : Nat → Addr} {c : C} {E : XK} {Γ Γ' : List Sl} {F F' H H' : Hp} {σ : L2.St} {pos : Pos} {a : Expr} {ma : WP D}
theorem RdOk.exc {v : V} {k : Nat} (x : RdOk K c F H v (dExc k)) (e : Ex F H) : ∃ a φ, v = .ref a ∧ H a = some (.ext φ) ∧ ∀ h, φ h → ∃ o vs, h.get? a = some o ∧ o.cls = .ref (K k) ∧ o.dict = none ∧ o.data = .fields vs := by
  rcases x with x | ⟨a, vs, ds, _, e2, _⟩
  · generalize hd : dExc k = d at x
    cases x with
    | exc h hφ =>
      rename_i a k' φ
      have ek : k = k' := by
        simp only [dExc, PyData.dict.injEq, List.cons.injEq, Prod.mk.injEq, PyData.int.injEq, and_true] at hd
        omega
      subst ek
      exact ⟨a, φ, rfl, e _ _ h, hφ⟩
    | non => cases hd
    | bl b => cases hd
    | int i => cases hd
    | str x => cases hd
    | lst h t => cases hd
    | tup h t => cases hd
  · cases e2
theorem e_isX {p p2 : Pos} (j : Nat) {y : Str} (T : ExT X.K K) (hj : j < 6) (hg : Gl X "isinstance") (hm : X.mg "isinstance" = none) (hg2 : Gl X y) (hm2 : X.mg y = some (.ref (K j))) (ha : PE X a (tR K c E Γ ma)) (hd : (y == ("__debug__" : Str)) = false := by decide)
    (hs : starEach (a :: [.Name y p2]) X.env = (false, eval a X.env) :: starEach [.Name y p2] X.env := by rfl) (hs2 : starEach [.Name y p2] X.env = (false, eval (.Name y p2) X.env) :: starEach [] X.env := by rfl) (hpl : (backTo pos (starEach [.Name y p2] X.env)).any (·.1) = false := by rfl) :
    PE X (.Call (.Name "isinstance" p) [a, .Name y p2] [] pos) (tW K c E Γ (ma.bind fun d => .opt (dIsX j d))) :=
  pe_weak (pe_callB call_isX hg hm (by decide +kernel) (pa_cons ha (pa_cons (pe_glob (v := .ref (K j)) hg2 hm2 rfl hd) pa_nil hs2) hs) (by decide) (by decide) hs hpl) fun σ H Q ⟨F, o, h⟩ => ⟨F, o, ma.mono _ _ _ _ (fun d p v F1 H1 o1 g1 x1 => by
    obtain ⟨z, hz, p⟩ := WP.opt_run p
    obtain ⟨k, hk, rfl, rfl⟩ := dIsX_some hz
    obtain ⟨b, φ, rfl, h1, h2⟩ := x1.exc o1.bs.fh
    have e : (decide (k = j) || decide (5 ≤ j)) = (decide (k = j) || decide (j = 5)) := by congr 1; exact decide_eq_decide.mpr (by omega)
    exact ⟨b, K k, φ, .ref (K j), _, _, rfl, h1, h2, T.c k hk, fun u r => r, T.kit k j hk hj, p _ F1 H1 o1 g1 (by rw [← e]; exact .bl _)⟩) (fun _ z => z) h⟩
theorem e_isV {p p2 : Pos} (T : ExT X.K K) (hg : Gl X "isinstance") (hm : X.mg "isinstance" = none) (hg2 : Gl X "ValueError") (hm2 : X.mg "ValueError" = none) (ha : PE X a (tR K c E Γ ma))
    (hs : starEach (a :: [.Name "ValueError" p2]) X.env = (false, eval a X.env) :: starEach [.Name "ValueError" p2] X.env := by rfl) (hs2 : starEach [.Name "ValueError" p2] X.env = (false, eval (.Name "ValueError" p2) X.env) :: starEach [] X.env := by rfl) (hpl : (backTo pos (starEach [.Name "ValueError" p2] X.env)).any (·.1) = false := by rfl) :
    PE X (.Call (.Name "isinstance" p) [a, .Name "ValueError" p2] [] pos) (tW K c E Γ (ma.bind fun d => .opt (dIsX 6 d))) :=
  pe_weak (pe_callB call_isX hg hm (by decide +kernel) (pa_cons ha (pa_cons (pe_bltn (v := .ty "ValueError") hg2 hm2 (by decide +kernel) rfl) pa_nil hs2) hs) (by decide) (by decide) hs hpl) fun σ H Q ⟨F, o, h⟩ => ⟨F, o, ma.mono _ _ _ _ (fun d p v F1 H1 o1 g1 x1 => by
    obtain ⟨z, hz, p⟩ := WP.opt_run p
    obtain ⟨k, hk, rfl, rfl⟩ := dIsX_some hz
    obtain ⟨b, φ, rfl, h1, h2⟩ := x1.exc o1.bs.fh
    have e : (decide (k = 6) || decide (5 ≤ 6)) = true := by simp
    exact ⟨b, K k, φ, .ty "ValueError", _, _, rfl, h1, h2, T.c k hk, fun u r => r, T.kv k hk, p _ F1 H1 o1 g1 (by rw [e]; exact .bl _)⟩) (fun _ z => z) h⟩
/-! three and four targets -/
def dTri : D → Option (D × D × D)
  | .tuple [a, b, c] => some (a, b, c)
  | _ => none
theorem dTri_some {d : D} {p : D × D × D} (h : dTri d = some p) : d = .tuple [p.1, p.2.1, p.2.2] := by
  unfold dTri at h
  split at h
  · cases h; rfl
  · cases h
def dQuadL : D → Option (D × D × D × D)
  | .list [a, b, c, e] => some (a, b, c, e)
  | _ => none
theorem dQuadL_some {d : D} {p : D × D × D × D} (h : dQuadL d = some p) : d = .list [p.1, p.2.1, p.2.2.1, p.2.2.2] := by
  unfold dQuadL at h
  split at h
  · cases h; rfl
  · cases h
end
/-! the hook with the classes of errors -/
def obsX (fa : List He.Fa) (fn : List He.DefD) (bx : PySem.W.Frag → Bool) (K : PySem.W.Frag) : He.AlD := ((He.obsD fa fn K).1 && bx K, (He.obsD fa fn K).2)
def SaysX (fa : List He.Fa) (fn : List He.DefD) (bx : PySem.W.Frag → Bool) (K : PySem.W.Frag) : Prop := obsX fa fn bx K = He.valD fn
def obsXG (n : Nat) (fa : List He.Fa) (fn : List He.DefD) (bx : PySem.W.Frag → Bool) (g : Addr → Option Obj) : He.AlD := obsX fa fn bx (He.frG g (He.asD g n))
def hookX (n : Nat) (fa : List He.Fa) (fn : List He.DefD) (bx : PySem.W.Frag → Bool) : PySem.W.Hook where
  α := He.AlD
  obs := fun s => obsXG n fa fn bx s.heap.get?
  val := fun _ => He.valD fn
  says := fun _ h => ∃ K : PySem.W.Frag, K.In h ∧ SaysX fa fn bx K
  of := fun _ _ e => ⟨_, He.frG_in, e⟩
  keeps := fun _ _ _ ⟨K, hK, c⟩ k => ⟨K, PySem.W.Frag.In.keeps hK k, c⟩
theorem obsXG_eq {n : Nat} {fa : List He.Fa} {fn : List He.DefD} {bx : PySem.W.Frag → Bool} {g : Addr → Option Obj} {s : Shared} (h : ∀ a, g a = s.heap.get? a) : obsXG n fa fn bx g = (hookX n fa fn bx).obs s := by
  have e : g = s.heap.get? := funext h
  rw [e] <;> rfl
theorem SaysX.d {fa : List He.Fa} {fn : List He.DefD} {bx : PySem.W.Frag → Bool} {K : PySem.W.Frag} (c : SaysX fa fn bx K) : He.SaysD fa fn K ∧ bx K = true := by
  have c1 := He.ba (show ((He.obsD fa fn K).1 && bx K) = true from congrArg (fun z : He.AlD => z.1) c)
  have c' : obsX fa fn bx K = He.valD fn := c
  have c2 : (obsX fa fn bx K).2 = (He.valD fn).2 := by rw [c']
  have c3 : He.obsD fa fn K = He.valD fn := Prod.ext c1.1 c2
  exact ⟨c3, c1.2⟩
end GA
namespace GA
open PySem PySem.Spec PyProof.Rows L2
/-! rows of ints in order -/
def rle : List Int → List Int → Bool
  | [], _ => true
  | _ :: _, [] => false
  | x :: xs, y :: ys => if x < y then true else if y < x then false else rle xs ys
theorem rle_eq : ∀ a b : List Int, decide (a ≤ b) = rle a b
  | [], b => by simp [rle]
  | x :: xs, [] => by simp [rle]
  | x :: xs, y :: ys => by
    have ih := rle_eq xs ys
    unfold rle
    by_cases h1 : x < y
    · rw [if_pos h1]
      have : (x :: xs) ≤ (y :: ys) := List.cons_le_cons_iff.mpr (.inl h1)
      simp [this]
    · rw [if_neg h1]
      by_cases h2 : y < x
      · rw [if_pos h2]
        have : ¬ (x :: xs) ≤ (y :: ys) := fun z => by
          rcases List.cons_le_cons_iff.mp z with q | q
          · exact h1 q
          · omega
        simp [this]
      · rw [if_neg h2, ← ih]
        have e : x = y := by omega
        subst e
        refine decide_eq_decide.mpr ⟨fun z => ?_, fun z => List.cons_le_cons_iff.mpr (.inr ⟨rfl, z⟩)⟩
        rcases List.cons_le_cons_iff.mp z with q | q
        · exact absurd q (Int.lt_irrefl x)
        · exact q.2
def insR (x : List Int) : List (List Int) → List (List Int)
  | [] => [x]
  | y :: ys => if rle x y = true then x :: y :: ys else y :: insR x ys
def sortR : List (List Int) → List (List Int)
  | [] => []
  | x :: xs => insR x (sortR xs)
theorem insR_perm (x : List Int) : ∀ ys, (insR x ys).Perm (x :: ys)
  | [] => .refl _
  | y :: ys => by
    unfold insR
    split
    · exact .refl _
    · exact ((insR_perm x ys).cons y).trans (.swap _ _ _)
theorem sortR_perm : ∀ xs, (sortR xs).Perm xs
  | [] => .refl _
  | x :: xs => (insR_perm x _).trans ((sortR_perm xs).cons x)
theorem insR_sorted (x : List Int) : ∀ ys : List (List Int), ys.Pairwise (· ≤ ·) → (insR x ys).Pairwise (· ≤ ·)
  | [], _ => by simp [insR]
  | y :: ys, h => by
    unfold insR
    split
    · rename_i hx
      rw [← rle_eq] at hx
      have hx := of_decide_eq_true hx
      refine List.pairwise_cons.mpr ⟨fun z hz => ?_, h⟩
      rcases List.mem_cons.mp hz with rfl | hz
      · exact hx
      · exact List.le_trans hx ((List.pairwise_cons.mp h).1 z hz)
    · rename_i hx
      rw [← rle_eq] at hx
      have hx : ¬ x ≤ y := fun z => hx (decide_eq_true z)
      have hyx : y ≤ x := (List.le_total x y).resolve_left hx
      refine List.pairwise_cons.mpr ⟨fun z hz => ?_, insR_sorted x ys (List.pairwise_cons.mp h).2⟩
      rcases List.mem_cons.mp ((insR_perm x ys).mem_iff.mp hz) with rfl | hz
      · exact hyx
      · exact (List.pairwise_cons.mp h).1 z hz
theorem sortR_sorted : ∀ xs, (sortR xs).Pairwise (· ≤ ·)
  | [] => .nil
  | x :: xs => insR_sorted x _ (sortR_sorted xs)
theorem sortedR_unique {xs ys : List (List Int)} (p : xs.Perm ys) (h1 : xs.Pairwise (· ≤ ·)) (h2 : ys.Pairwise (· ≤ ·)) : xs = ys :=
  p.eq_of_pairwise (fun a b _ _ h1 h2 => List.le_antisymm h1 h2) h1 h2
def rowD (r : List Int) : D := .list (r.map .int)
def dRows : List D → Option (List (List Int))
  | [] => some []
  | .list ds :: r => (dInts ds).bind fun ns => (dRows r).map fun rs => ns :: rs
  | _ :: _ => none
def dSortR : List D → Option D
  | [.list ds] => if ds.length ≤ LIM then (dRows ds).map fun rs => .list ((sortR rs).map rowD) else none
  | _ => none
theorem dRows_eq : ∀ {ds : List D} {rs : List (List Int)}, dRows ds = some rs → ds = rs.map rowD
  | [], _, h => by cases h; rfl
  | .list es :: r, rs, h => by
    unfold dRows at h
    cases e : dInts es with
    | none => rw [e] at h; cases h
    | some ns =>
      cases e2 : dRows r with
      | none => rw [e, e2] at h; cases h
      | some rs' =>
        rw [e, e2] at h
        cases h
        have : es = ns.map .int := by
          clear e2
          induction es generalizing ns with
          | nil => cases e; rfl
          | cons d es ih =>
            cases d <;> simp only [dInts] at e <;> try cases e
            cases e3 : dInts es with
            | none => rw [e3] at e; cases e
            | some ms => rw [e3] at e; cases e; rw [ih ms e3]; rfl
        rw [dRows_eq e2, List.map_cons, rowD, ← this]
  | .none :: _, _, h => by cases h
  | .bool _ :: _, _, h => by cases h
  | .int _ :: _, _, h => by cases h
  | .str _ :: _, _, h => by cases h
  | .tuple _ :: _, _, h => by cases h
  | .dict _ :: _, _, h => by cases h
/-! sorted(rows) -/
def rSortR (K : PySem.W.Frag) : List V → Hp → VK → Prop := fun vs H Q => ∃ (a : Addr) (bs : List (V × List Int)), vs = [V.ref a] ∧ SqL K H a (bs.map (·.1)) ∧ (∀ b, b ∈ bs → Dp K H b.1 (rowD b.2)) ∧
  ∀ p : Addr, H p = none → Q (.ref p) (upd H p (.lst ((bs.mergeSort fun p q => decide (p.2 ≤ q.2)).map (·.1))))
theorem row_depth (r : List Int) : (rowD r).depth ≤ 2 := by
  unfold rowD
  have := dep_ints r
  simp only [PyData.depth]
  omega
theorem alike_ints : ∀ a b : List Int, PySem.W.alikeAll (a.map .int) (b.map .int) = true
  | [], b => by simp [PySem.W.alikeAll]
  | _ :: _, [] => by simp [PySem.W.alikeAll]
  | x :: a, y :: b => by simp [PySem.W.alikeAll, PySem.W.alike, alike_ints a b]
theorem each_of {X : Cx} {pins : List (Addr × Obj)} {σ : L2.St} {H : Hp} {s : Shared} (I : Inv X pins σ H s) : ∀ {bs : List (V × List Int)} {its : List Value}, Vals (bs.map (·.1)) its → (∀ b, b ∈ bs → Dp X.K H b.1 (rowD b.2)) →
    PySem.W.EachIs (fun v b => RelV b.1 v) its bs ∧ PySem.W.EachIs (fun v b => ∃ as, Reads s.heap v (rowD b.2) as) its bs
  | [], _, .nil, _ => ⟨.nil, .nil⟩
  | b :: bs, _, .cons r t, h => by
    obtain ⟨h1, h2⟩ := each_of I t fun b hb => h b (List.mem_cons_of_mem _ hb)
    exact ⟨.cons r h1, .cons (Dp.reads I _ _ _ (h b List.mem_cons_self) r) h2⟩
theorem vals_each : ∀ {bs : List (V × List Int)} {its : List Value}, PySem.W.EachIs (fun v b => RelV b.1 v) its bs → Vals (bs.map (·.1)) its
  | _, _, .nil => .nil
  | _, _, .cons r t => .cons r (vals_each t)
theorem cr_sortR {X : Cx} (hu : X.A.units + 65 < cLine) : CallR X (.builtin "sorted") (rSortR X.K) := by
  intro pins s σ H vs us Q I r h
  obtain ⟨a, bs, rfl, hs, hd, q⟩ := h
  obtain ⟨its, rv, hl, hz⟩ := I.list hs
  rw [Vals.ref1 r]
  obtain ⟨e1, e2⟩ := each_of I rv hd
  have hle : (PySem.W.dataLe false fun b : V × List Int => rowD b.2) = fun p q => decide (p.2 ≤ q.2) := PySem.W.dataLe_rows fun b : V × List Int => b.2
  have hlen : bs.length ≤ sizeLine := by rw [List.length_map] at hz; exact hz
  refine PySem.W.sorted_data (enc := fun b : V × List Int => rowD b.2) hl.isList e1 e2 ?_ (.inr ?_) hlen (fun b _ => ?_) fun out ho heach => ?_
  · intro d h1 d' h2
    obtain ⟨b, _, rfl⟩ := List.mem_map.mp h1
    obtain ⟨b', _, rfl⟩ := List.mem_map.mp h2
    show PySem.W.alike (rowD b.2) (rowD b'.2) = true
    unfold rowD
    simp only [PySem.W.alike]
    exact alike_ints _ _
  · intro d h1
    obtain ⟨b, _, rfl⟩ := List.mem_map.mp h1
    exact ⟨(fun z => by cases z), (fun xs z => by cases z)⟩
  · have := row_depth b.2
    show X.A.units + 2 + (rowD b.2).depth < cLine
    omega
  · rw [hle] at heach
    obtain ⟨ep, he'⟩ := PyProof.Rows.sortedAll_at s.heap its out.toArray
    have rv' := vals_each heach
    have hlen2 : ((bs.mergeSort fun p q => decide (p.2 ≤ q.2)).map (·.1)).length ≤ sizeLine := by
      rw [List.length_map, List.length_mergeSort]; exact hlen
    exact ⟨.ref _, upd H (s.heap.objs.size + 1) (.lst ((bs.mergeSort fun p q => decide (p.2 ≤ q.2)).map (·.1))), I.laid (t' := s.toks) (fun _ _ => PyProof.Rows.sortedAll_old) (Nat.le_succ _) ⟨hlen2, out, ep, rv', he'⟩, rfl, q _ (I.hok.fresh (Nat.le_succ _))⟩
section
variable {X : Cx} {K : Nat → Addr} {c : C} {E : XK} {Γ Γ' : List Sl} {F F' H H' : Hp} {σ : L2.St}
theorem rp_zip : ∀ {vs : List V} {rs : List (List Int)}, RpAll K F vs (rs.map rowD) → ∃ bs : List (V × List Int), vs = bs.map (·.1) ∧ rs = bs.map (·.2) ∧ ∀ b, b ∈ bs → Rp K F b.1 (rowD b.2)
  | _, [], .nil => ⟨[], rfl, rfl, fun _ h => nomatch h⟩
  | _, r :: rs, .cons h t => by
    obtain ⟨bs, h1, h2, h3⟩ := rp_zip t
    refine ⟨(_, r) :: bs, by rw [h1]; rfl, by rw [h2]; rfl, fun b hb => ?_⟩
    rcases List.mem_cons.mp hb with rfl | hb
    · exact h
    · exact h3 b hb
theorem zip_rp : ∀ {bs : List (V × List Int)}, (∀ b, b ∈ bs → Rp K F b.1 (rowD b.2)) → RpAll K F (bs.map (·.1)) ((bs.map (·.2)).map rowD)
  | [], _ => .nil
  | b :: bs, h => .cons (h b List.mem_cons_self) (zip_rp fun b hb => h b (List.mem_cons_of_mem _ hb))
theorem cd_sortR {W : PySem.W.Frag} : CallD K (rSortR W) dSortR := by
  intro c Γ σ F H vs ds z Q o hx hf q
  unfold dSortR at hf
  split at hf
  · rename_i ds
    split at hf
    · cases e : dRows ds with
      | none => rw [e] at hf; cases hf
      | some rs =>
        rw [e] at hf
        cases hf
        obtain ⟨v, rfl, h⟩ := rd1 hx
        obtain ⟨a, vs, rfl, h1, t1⟩ := h.list o.bs.fh
        rw [dRows_eq e] at t1
        obtain ⟨bs, rfl, rfl, hb⟩ := rp_zip t1
        have lay : ∀ r : List Int, (rowD r).canLay0 = true := fun r => by unfold rowD; simp only [PyData.canLay0]; exact lay_ints r
        refine ⟨a, bs, rfl, .inl (.inl h1), fun b h2 => rp_dp (dp_mono o.bs.fh (hb b h2)) (lay _), fun p hp => ?_⟩
        have hle : ∀ (a b : V × List Int), (decide (a.2 ≤ b.2) || decide (b.2 ≤ a.2)) = true := fun a b => by
          rcases List.le_total a.2 b.2 with q | q
          · simp [q]
          · simp [q]
        have htr : ∀ (a b c : V × List Int), decide (a.2 ≤ b.2) = true → decide (b.2 ≤ c.2) = true → decide (a.2 ≤ c.2) = true := fun a b c h1 h2 => decide_eq_true (List.le_trans (of_decide_eq_true h1) (of_decide_eq_true h2))
        have hsort := List.pairwise_mergeSort (le := fun p q : V × List Int => decide (p.2 ≤ q.2)) htr hle bs
        have hperm := List.mergeSort_perm bs fun p q : V × List Int => decide (p.2 ≤ q.2)
        have heq : (bs.mergeSort fun p q => decide (p.2 ≤ q.2)).map (·.2) = sortR (bs.map (·.2)) := by
          refine sortedR_unique ((hperm.map _).trans (sortR_perm _).symm) ?_ (sortR_sorted _)
          rw [List.pairwise_map]
          exact hsort.imp fun h => of_decide_eq_true h
        refine new_lst o hp ?_ q
        rw [← heq]
        exact zip_rp fun b hb' => hb b (hperm.mem_iff.mp hb')
    · cases hf
  · cases hf
theorem wipe_at {i : Nat} : ∀ (τ : L2.St) (ws : List Nat), i ∈ ws → (wipe τ ws)[i]? = if i < τ.length then some none else none := by
  intro τ ws
  induction ws with
  | nil => intro h; cases h
  | cons w ws ih =>
    intro h
    unfold wipe
    by_cases e : w = i
    · subst e
      rw [List.getElem?_set]
      simp [wipe_length]
    · rw [List.getElem?_set_ne e]
      exact ih ((List.mem_cons.mp h).resolve_left fun z => e z.symm)
theorem wipe_set {σ : L2.St} {i : Nat} {v : Option V} {vs : List Nat} (h : i ∈ vs) : wipe (σ.set i v) vs = wipe σ vs := by
  apply List.ext_getElem?
  intro n
  by_cases hn : n ∈ vs
  · rw [wipe_at _ _ hn, wipe_at _ _ hn, List.length_set]
  · rw [wipe_out hn, wipe_out hn, List.getElem?_set_ne (fun z : i = n => hn (z ▸ h))]
/-! targets of three and four -/
variable {pos : Pos} {ms : WP (List D)}
theorem g_tri (i j l : Nat) {x y z : Str} {px py pz : Pos} {k : Nat} (hc : X.calm = true) (hN : X.N.Nodup) (hi : X.N[i]? = some x) (hj : X.N[j]? = some y) (hl : X.N[l]? = some z) (hij : i ≠ j) (hil : i ≠ l) (hjl : j ≠ l) (hx : Loc X.env.scope x) (hy : Loc X.env.scope y) (hz : Loc X.env.scope z)
    (hf : X.fn x = true ∨ X.env.scope.names.lookup x = some .local := by first | exact .inl rfl | exact .inr rfl | assumption) (hf2 : X.fn y = true ∨ X.env.scope.names.lookup y = some .local := by first | exact .inl rfl | exact .inr rfl | assumption) (hf3 : X.fn z = true ∨ X.env.scope.names.lookup z = some .local := by first | exact .inl rfl | exact .inr rfl | assumption)
    (hn : (assignEach [.Name x px, .Name y py, .Name z pz] X.env).length = 3 := by rfl) (hst : (assignEach [.Name x px, .Name y py, .Name z pz] X.env).findIdx? (·.1) = none := by rfl)
    (hs1 : (assignEach (.Name x px :: [.Name y py, .Name z pz]) X.env).map (·.2) = assign (.Name x px) X.env :: (assignEach [.Name y py, .Name z pz] X.env).map (·.2) := by rfl)
    (hs2 : (assignEach (.Name y py :: [.Name z pz]) X.env).map (·.2) = assign (.Name y py) X.env :: (assignEach [.Name z pz] X.env).map (·.2) := by rfl)
    (hs3 : (assignEach (.Name z pz :: []) X.env).map (·.2) = assign (.Name z pz) X.env :: (assignEach [] X.env).map (·.2) := by rfl) :
    PG X (.Tuple [.Name x px, .Name y py, .Name z pz] k pos) (tG K c Γ dTri (fun p => ((Γ.set i (.imm p.1)).set j (.imm p.2.1)).set l (.imm p.2.2)) [i, j, l]) :=
  pg_weak (pg_tup hc (pgs_cons (pg_name hN hi hx hf) (pgs_cons (pg_name hN hj hy hf2) (pgs_cons (pg_name hN hl hz hf3) pgs_nil hs3) hs2) hs1) hn hst) fun v σ H Q ⟨F, d, a, o, rp, hd, q⟩ => by
    cases dTri_some hd
    cases rp with
    | tup h t =>
      cases t with
      | cons r1 t => cases t with
        | cons r2 t => cases t with
          | cons r3 t =>
            cases t
            refine ⟨_, _, rfl, .inl (.inl (o.bs.fh _ _ h)), rfl, _, _, rfl, _, _, rfl, _, _, rfl, rfl, q _ (((o.set r1).set r2).set r3) ?_⟩
            rw [wipe_set (by simp), wipe_set (by simp), wipe_set (by simp)]
theorem g_quadL (i j l m : Nat) {x y z w : Str} {px py pz pw : Pos} {k : Nat} (hc : X.calm = true) (hN : X.N.Nodup) (hi : X.N[i]? = some x) (hj : X.N[j]? = some y) (hl : X.N[l]? = some z) (hm : X.N[m]? = some w) (hx : Loc X.env.scope x) (hy : Loc X.env.scope y) (hz : Loc X.env.scope z) (hw : Loc X.env.scope w)
    (hf : X.fn x = true ∨ X.env.scope.names.lookup x = some .local := by first | exact .inl rfl | exact .inr rfl | assumption) (hf2 : X.fn y = true ∨ X.env.scope.names.lookup y = some .local := by first | exact .inl rfl | exact .inr rfl | assumption) (hf3 : X.fn z = true ∨ X.env.scope.names.lookup z = some .local := by first | exact .inl rfl | exact .inr rfl | assumption) (hf4 : X.fn w = true ∨ X.env.scope.names.lookup w = some .local := by first | exact .inl rfl | exact .inr rfl | assumption)
    (hn : (assignEach [.Name x px, .Name y py, .Name z pz, .Name w pw] X.env).length = 4 := by rfl) (hst : (assignEach [.Name x px, .Name y py, .Name z pz, .Name w pw] X.env).findIdx? (·.1) = none := by rfl)
    (hs1 : (assignEach (.Name x px :: [.Name y py, .Name z pz, .Name w pw]) X.env).map (·.2) = assign (.Name x px) X.env :: (assignEach [.Name y py, .Name z pz, .Name w pw] X.env).map (·.2) := by rfl)
    (hs2 : (assignEach (.Name y py :: [.Name z pz, .Name w pw]) X.env).map (·.2) = assign (.Name y py) X.env :: (assignEach [.Name z pz, .Name w pw] X.env).map (·.2) := by rfl)
    (hs3 : (assignEach (.Name z pz :: [.Name w pw]) X.env).map (·.2) = assign (.Name z pz) X.env :: (assignEach [.Name w pw] X.env).map (·.2) := by rfl)
    (hs4 : (assignEach (.Name w pw :: []) X.env).map (·.2) = assign (.Name w pw) X.env :: (assignEach [] X.env).map (·.2) := by rfl) :
    PG X (.Tuple [.Name x px, .Name y py, .Name z pz, .Name w pw] k pos) (tG K c Γ dQuadL (fun p => (((Γ.set i (.imm p.1)).set j (.imm p.2.1)).set l (.imm p.2.2.1)).set m (.imm p.2.2.2)) [i, j, l, m]) :=
  pg_weak (pg_lst hc (pgs_cons (pg_name hN hi hx hf) (pgs_cons (pg_name hN hj hy hf2) (pgs_cons (pg_name hN hl hz hf3) (pgs_cons (pg_name hN hm hw hf4) pgs_nil hs4) hs3) hs2) hs1) hn hst) fun v σ H Q ⟨F, d, a, o, rp, hd, q⟩ => by
    cases dQuadL_some hd
    cases rp with
    | lst h t =>
      cases t with
      | cons r1 t => cases t with
        | cons r2 t => cases t with
          | cons r3 t => cases t with
            | cons r4 t =>
              cases t
              refine ⟨_, _, rfl, .inl (.inl (o.bs.fh _ _ h)), rfl, _, _, rfl, _, _, rfl, _, _, rfl, _, _, rfl, rfl, q _ ((((o.set r1).set r2).set r3).set r4) ?_⟩
              rw [wipe_set (by simp), wipe_set (by simp), wipe_set (by simp), wipe_set (by simp)]
theorem s_par3 (i j l : Nat) {x y z : Str} {px py pz pt pt2 : Pos} {kt k2 : Nat} {ea eb ec : Expr} (hc : X.calm = true) (hN : X.N.Nodup) (hi : X.N[i]? = some x) (hj : X.N[j]? = some y) (hl : X.N[l]? = some z) (hij : i ≠ j) (hil : i ≠ l) (hjl : j ≠ l)
    (hx : X.env.scope.names.lookup x = some .local) (hy : X.env.scope.names.lookup y = some .local) (hz : X.env.scope.names.lookup z = some .local) (ha : PL X K c E Γ [ea, eb, ec] ms)
    (hw : swappedStores [.Tuple [.Name x px, .Name y py, .Name z pz] kt pt] (.Tuple [ea, eb, ec] k2 pt2) X.env = pure (some [x, y, z]) := by rfl)
    (hs : swapsWithSole [.Tuple [.Name x px, .Name y py, .Name z pz] kt pt] (.Tuple [ea, eb, ec] k2 pt2) pos.line X.env = pure false := by rfl) :
    PS X (.Assign [.Tuple [.Name x px, .Name y py, .Name z pz] kt pt] (.Tuple [ea, eb, ec] k2 pt2) pos) (tX K c E Γ (ms.bind fun ds => .opt (dTri (.tuple ds))) fun p => ((Γ.set i (.imm p.1)).set j (.imm p.2.1)).set l (.imm p.2.2)) :=
  ps_weak (ps_par3 hc hN hi hj hl hij hil hjl hx hy hz ha.pa hw hs) fun D σ H ⟨F, o, r⟩ => ⟨F, o, ms.mono _ _ _ _ (fun ds r vs F1 H1 o1 g1 x1 => by
    obtain ⟨p, hp, r⟩ := WP.opt_run r
    cases dTri_some hp
    cases x1 with
    | cons r1 t => cases t with
      | cons r2 t => cases t with
        | cons r3 t =>
          cases t
          exact ⟨_, _, _, rfl, r _ F1 H1 (((o1.set r1).set r2).set r3) g1.f⟩) (fun _ z => z) r⟩
end
/-! a def that calls itself: no turns left -/
theorem fn_bad {P : Program} {w : World} {W : PySem.W.Frag} {mg : Str → Option Value} {base : Heap} {K : Nat → Addr} {CX : CXT} {k n : Nat} {f : Addr} {fd : FuncData} {ps : List Str} {g : List D → R D} (h : ∀ ds, g ds = .bad) : FnOk P w W mg base CX k f fd ps (spW K n fun ds => .lift (g ds)) := by
  have no : ∀ vs H Q E, spW K n (fun ds => .lift (g ds)) vs H Q E → False := fun vs H Q E ⟨F, ds, _, _, _, r⟩ => by
    have r' : (WP.lift (g ds)).run _ _ := r
    rw [h ds] at r'
    exact r'
  exact ⟨fun vs H Q E h => (no vs H Q E h).elim, fun A outer s H args us vs Q E _ _ _ _ h => (no vs H Q E h).elim⟩
end GA
namespace GA
open PySem PySem.Spec PyProof.Rows L2
/-! xs.count(True) -/
def dCountB (ds : List D) : D → Option D
  | .bool k => (dBools ds).map fun bs => .int (bs.count k : Nat)
  | _ => none
def rCntB (K : PySem.W.Frag) : V → List V → Hp → VK → Prop := fun x xs H Q => ∃ (p : Addr) (bs : List Bool) (k : Bool), x = .ref p ∧ xs = [.bl k] ∧ SqL K H p (bs.map V.bl) ∧ Q (.int (bs.count k : Nat)) H
theorem dp_bools {W : PySem.W.Frag} {H : Hp} : ∀ bs : List Bool, DpAll W H (bs.map V.bl) (bs.map PyData.bool)
  | [] => .nil
  | b :: bs => .cons (.bl b) (dp_bools bs)
theorem countIn_bools (k : Bool) : ∀ bs : List Bool, PySem.Spec.countIn (.bool k) (bs.map PyData.bool) = ((bs.count k : Nat) : Int)
  | [] => rfl
  | b :: bs => by
    rw [List.map_cons, PySem.Spec.countIn, countIn_bools k bs, List.count_cons]
    simp only [same]
    cases b <;> cases k <;> simp <;> omega
theorem mt_bcount {X : Cx} : MtR X "list.count" (rCntB X.K) := by
  intro pins s σ H x xs v us Q I rx rxs h
  obtain ⟨p, bs, k, rfl, rfl, hs, q⟩ := h
  cases rx
  obtain ⟨u, rfl, ru⟩ := rxs.one
  cases ru
  obtain ⟨its, rv, pl, hlen⟩ := I.list hs
  obtain ⟨as, ra⟩ := Dp.readsAll I _ _ _ (dp_bools (W := X.K) (H := H) bs) rv
  refine count_list_bools pl.isList ra (by simp [Shape.has]) ?_
  refine ⟨.int (bs.count k : Nat), H, I.tok _, ⟨s.toks, ?_⟩, q⟩
  rw [countIn_bools]
theorem md_countB {K : Nat → Addr} {W : PySem.W.Frag} : MtD K (rCntB W) dCountB := by
  intro c Γ σ F H x y ds e z Q o hx hy hf q
  cases e <;> simp only [dCountB] at hf <;> try cases hf
  rename_i k
  cases e1 : dBools ds with
  | none => rw [e1] at hf; cases hf
  | some ns =>
    rw [e1] at hf
    cases hf
    obtain ⟨a, vs, rfl, k1, k2⟩ := hx.list o.bs.fh
    cases bools_rp k2 e1
    exact ⟨a, ns, k, rfl, by rw [hy.bl], .inl (.inl k1), q _ F H o .refl (.int _)⟩
end GA
namespace GA
open PySem PySem.Spec PyProof.Rows L2
/-! set(list of ints), kept as SetR -/
section
variable {P : Program} {w : World} {A : Around} {E : Value → Shared → Prop} {s : Shared}
abbrev oSet0 (w : World) : Obj := { cls := .type "set", dict := none, data := .set #[] 0 (.fresh 0 0 (!w.params.followText "set-order")) }
theorem call_set_ints {l : Addr} {items : Array Value} (ns : List Int) {Q : Value → Shared → Prop} (hh : A.handled = none) (hl : s.heap.IsList l items) (hit : IntsAre items.toList ns) (hb : ns.length + 1 < scanBound)
    (h : ∀ (h' : Heap) (tk c : Nat), SetR w h' s.heap.objs.size (fun j => decide (j ∈ ns)) c → c ≤ ns.length → (∀ b o, s.heap.get? b = some o → h'.get? b = some o) → Q (.ref s.heap.objs.size) { s with heap := h', toks := tk }) :
    wpAny (model P w) A (call (.type "set") [.ref l]) Q E s := by
  have hisz : items.size = ns.length := by
    have q := IntsAre.length hit
    rw [Array.length_toList] at q
    exact q
  have fill : (s.heap.push (oSet0 w)).get? s.heap.objs.size = some (oSet0 w) → wpAny (model P w) A.in1.in1 (Builtin.«set.__init__» ⟨[.ref s.heap.objs.size, .ref l], []⟩) (fun fin s' => match fin with | .done f => wants (fun r s₂ => r = .none ∧ Q (.ref s.heap.objs.size) s₂) E (.ok f) s' | .again c' => c'.quiet = true ∧ codeAny (model P w) A.in1 c' (wants (fun r s₂ => r = .none ∧ Q (.ref s.heap.objs.size) s₂) E) s') (fun e s' => wants (fun r s₂ => r = .none ∧ Q (.ref s.heap.objs.size) s₂) E (.error e) s') { s with heap := s.heap.push (oSet0 w) } := fun hS => by
    have hl0 : s.heap.IsList l items := hl
    obtain ⟨ol, hol, hcl, nl, hdl⟩ := hl
    obtain ⟨ocls, odict, odata, oslots⟩ := ol
    simp only at hcl hdl
    subst hcl
    subst hdl
    have hol' : (s.heap.push (oSet0 w)).get? l = some { cls := .type "list", dict := odict, data := .seq items nl, slots := oslots } := Heap.get?_push_of_some _ hol
    have hl1 : (s.heap.push (oSet0 w)).IsList l items := ⟨_, hol', rfl, nl, rfl⟩
    have k1 := F.sub_list_set
    have k2 := F.sub_list_frozenset
    have k3 : (Value.type "list" == Value.type "dict") = false := by decide
    unfold Builtin.«set.__init__» noKeywords Builtin.Frozenset.updateFrom
    generalize hPI : pyIter = PI
    wp_walk
    subst hPI
    refine wpAny_pyIter_list hl1 (wpAny_bind (wpAny_runValue ?_))
    have lS : l < s.heap.objs.size := Heap.lt_size hol
    have hh3 : A.in1.in1.in1.handled = none := by simp [hh]
    have sz : (s.heap.push (oSet0 w)).objs.size = s.heap.objs.size + 1 := Heap.size_push ..
    have n1 : l ≠ (s.heap.push (oSet0 w)).objs.size := by rw [sz]; exact Nat.ne_of_lt (Nat.lt_succ_of_lt lS)
    have n2 : s.heap.objs.size ∉ [(s.heap.push (oSet0 w)).objs.size, l] := by
      rw [sz]
      simp only [List.mem_cons, List.not_mem_nil, or_false, not_or]
      exact ⟨Nat.ne_of_lt (Nat.lt_succ_self _), Nat.ne_of_gt lS⟩
    have hv : ∀ (i : Nat) (v : Value), items[i]? = some v → ∃ k t, ns[i]? = some k ∧ v = .int k t := fun i v q => by
      have hi : i < ns.length := by rw [← hisz]; exact (Array.getElem?_eq_some_iff.mp q).1
      obtain ⟨t, e⟩ := PyProof.Rows.IntsAre.int_at hit i v (by rw [Array.getElem?_toList]; exact q)
      refine ⟨ns[i], t, List.getElem?_eq_getElem hi, ?_⟩
      rw [e, List.getD_eq_getElem?_getD, List.getElem?_eq_getElem hi] <;> rfl
    refine set_update_ints ((Walks.list hh3 _ l n1 items).toS) s.heap.objs.size n2 ns hisz hb hv (items.size - 0) 0 _ (by omega) (Nat.zero_le _) ⟨⟨_, Heap.get?_push_size _ rfl, rfl, rfl⟩, hl1.push _⟩ ⟨0, Nat.le_refl 0, setR_new_at (Heap.get?_push_of_some _ hS)⟩ ?_
    intro s' c hm hc hR
    obtain ⟨h', g2, d', tk', os'⟩ := s'
    obtain rfl : g2 = s.gens := hm.gens
    obtain rfl : d' = s.drawn := hm.drawn
    obtain rfl : os' = s.os := hm.os
    show wpAny _ _ _ _ _ _
    refine wpAny_pure ?_
    show wpAny _ _ (ret Value.none) _ _ _
    refine wpAny_pure ⟨rfl, h h' tk' c hR (by rw [← hisz]; exact hc) fun b o e => ?_⟩
    have b0 := Heap.lt_size e
    refine hm.heap b o ?_ (Heap.get?_push_of_some _ (Heap.get?_push_of_some _ e))
    simp only [List.mem_cons, List.not_mem_nil, or_false, not_or, sz]
    exact ⟨Nat.ne_of_lt b0, Nat.ne_of_lt (Nat.lt_succ_of_lt b0)⟩
  obtain ⟨c, tl, hmro⟩ := F.called_set.mro
  have m1 := F.called_set.made
  have m2 := F.called_set.sub
  have m3 := F.called_set.notType
  have m4 := F.called_set.canCreate
  have m5 := F.typeCall_set_1 (.ref l)
  refine wpAny_call (codeAny_of_tree ?_)
  show wpAny _ _ (callAny (.type "set") _) _ _ _
  refine wpAny_pure ⟨Code.quiet_builtin _ (by decide +kernel), codeAny_builtin F.entry_type_call ?_⟩
  rw [Around.under_plain (weight_type_call_type "set" [.ref l] []) rfl]
  repeat (any_goals (first | assumption | wp_step))
  refine codeAny_mono (code_set_led1 (.ref l) (E := E) (Q₁ := fun obj s₁ => obj = .ref s.heap.objs.size ∧ s₁ = { s with heap := s.heap.push (oSet0 w) }) ⟨rfl, rfl⟩) fun r s₁ hr => ?_
  match r, hr with
  | .error e, hr => exact hr
  | .ok (.ret obj), hr =>
    obtain ⟨rfl, rfl⟩ := hr
    have hS : (s.heap.push (oSet0 w)).get? s.heap.objs.size = some (oSet0 w) := Heap.get?_push_size _ rfl
    have hT : Shared.TypeIs { s with heap := s.heap.push (oSet0 w) } (.ref s.heap.objs.size) "set" := ⟨_, hS, rfl⟩
    have m6 := F.called_set.init.lookup
    have m7 := F.called_set.init.bind (.ref s.heap.objs.size)
    repeat (any_goals (first | assumption | wp_step))
    refine codeAny_mono (codeAny_call_builtin (R := wants (fun r s₂ => r = .none ∧ Q (.ref s.heap.objs.size) s₂) E) F.called_set.init.plain F.entry_set_init (check_set_init_1 hT ?_)) fun r₂ s₂ hr₂ => ?_
    · exact fill hS
    · match r₂, hr₂ with
      | .error e, hr₂ => exact hr₂
      | .ok (.ret r), hr₂ =>
        obtain ⟨rfl, q⟩ := hr₂
        repeat (any_goals (first | assumption | wp_step))
end
/-! sorted(set(xs)), len(set(xs)), xs a list of ints -/
def insS (x : Int) : List Int → List Int
  | [] => [x]
  | y :: ys => if x < y then x :: y :: ys else if x = y then y :: ys else y :: insS x ys
def sortS (ns : List Int) : List Int := ns.foldr insS []
theorem mem_insS (x k : Int) : ∀ ys : List Int, k ∈ insS x ys ↔ k = x ∨ k ∈ ys
  | [] => by simp [insS]
  | y :: ys => by
    unfold insS
    split
    · simp
    · split
      · rename_i e; subst e; simp
      · rw [List.mem_cons, mem_insS x k ys, List.mem_cons]
        constructor
        · rintro (h | h | h)
          · exact .inr (.inl h)
          · exact .inl h
          · exact .inr (.inr h)
        · rintro (h | h | h)
          · exact .inr (.inl h)
          · exact .inl h
          · exact .inr (.inr h)
theorem insS_incr (x : Int) : ∀ ys : List Int, ys.Pairwise (· < ·) → (insS x ys).Pairwise (· < ·)
  | [], _ => by simp [insS]
  | y :: ys, h => by
    have h1 := (List.pairwise_cons.mp h).1
    have h2 := (List.pairwise_cons.mp h).2
    unfold insS
    split
    · rename_i q
      refine List.pairwise_cons.mpr ⟨fun z hz => ?_, h⟩
      rcases List.mem_cons.mp hz with rfl | hz
      · exact q
      · have := h1 z hz; omega
    · split
      · exact h
      · refine List.pairwise_cons.mpr ⟨fun z hz => ?_, insS_incr x ys h2⟩
        rcases (mem_insS x z ys).mp hz with rfl | hz
        · omega
        · exact h1 z hz
theorem mem_sortS (k : Int) : ∀ ns : List Int, k ∈ sortS ns ↔ k ∈ ns
  | [] => by simp [sortS]
  | x :: ns => by
    show k ∈ insS x (sortS ns) ↔ _
    rw [mem_insS, mem_sortS k ns, List.mem_cons]
theorem sortS_incr : ∀ ns : List Int, (sortS ns).Pairwise (· < ·)
  | [] => List.Pairwise.nil
  | x :: ns => insS_incr x _ (sortS_incr ns)
theorem incr_unique : ∀ {xs ys : List Int}, xs.Pairwise (· < ·) → ys.Pairwise (· < ·) → (∀ k, k ∈ xs ↔ k ∈ ys) → xs = ys
  | [], [], _, _, _ => rfl
  | [], y :: ys, _, _, h => absurd ((h y).mpr List.mem_cons_self) (by simp)
  | x :: xs, [], _, _, h => absurd ((h x).mp List.mem_cons_self) (by simp)
  | x :: xs, y :: ys, h1, h2, h => by
    have a1 := (List.pairwise_cons.mp h1).1
    have a2 := (List.pairwise_cons.mp h2).1
    have e : x = y := by
      rcases List.mem_cons.mp ((h x).mp List.mem_cons_self) with e | e
      · exact e
      · rcases List.mem_cons.mp ((h y).mpr List.mem_cons_self) with e' | e'
        · exact e'.symm
        · have := a2 x e
          have := a1 y e'
          omega
    subst e
    congr 1
    refine incr_unique (List.pairwise_cons.mp h1).2 (List.pairwise_cons.mp h2).2 fun k => ⟨fun q => ?_, fun q => ?_⟩
    · rcases List.mem_cons.mp ((h k).mp (List.mem_cons_of_mem _ q)) with e | e
      · have := a1 k q; omega
      · exact e
    · rcases List.mem_cons.mp ((h k).mpr (List.mem_cons_of_mem _ q)) with e | e
      · have := a2 k q; omega
      · exact e
section
variable {X : Cx}
def tSortSet (K : PySem.W.Frag) (ta : TE) : TE := fun σ H Q => ta σ H fun x H1 => ∃ (l : Addr) (ns : List Int), x = .ref l ∧ SqL K H1 l (ns.map V.int) ∧ ns.length < 64 ∧
  ∀ (a : Addr) (u : HO) (ms : List Int) (p : Addr), ms.Pairwise (· < ·) → (∀ k, k ∈ ms ↔ k ∈ ns) → H1 a = none → upd H1 a u p = none → Q (.ref p) (upd (upd H1 a u) p (.lst (ms.map V.int)))
theorem pe_sortSet {a : Expr} {ta : TE} {p p2 q pos : Pos} (hc : X.calm = true) (hg : Gl X "sorted") (hm : X.mg "sorted" = none) (hg2 : Gl X "set") (hm2 : X.mg "set" = none) (ha : PE X a ta)
    (na : starEach [a] X.env = (false, eval a X.env) :: starEach [] X.env := by rfl) : PE X (.Call (.Name "sorted" p) [.Call (.Name "set" p2) [a] [] q] [] pos) (tSortSet X.K ta) := by
  refine ⟨fun pins s σ H Q I h => ?_⟩
  refine Call_ (ld_blt I hg hm PyProof.Rows.boot_sorted ?_)
  refine PyProof.Rows.callWith_builtin1 (PyProof.Rows.args_cons ?_ rfl) rfl rfl
  refine Call_ (ld_blt I hg2 hm2 PyProof.Rows.boot_set ?_)
  refine PyProof.Rows.callWith_type1 (PyProof.Rows.args_cons (thn (ha.run pins s σ H _ I h) fun v s1 ⟨x, H1, I1, r1, q1⟩ => PyProof.Rows.args_nil ?_) na) na rfl
  obtain ⟨l, ns, rfl, hq, hl, q1⟩ := q1
  cases r1
  obtain ⟨its, r, pl, hz⟩ := I1.list hq
  refine call_set_ints ns (I1.ok.hd hc) pl.isList (by simpa using r.ints) (by unfold scanBound; omega) fun h' tk c R hcn hk => PyProof.Rows.args_nil ?_
  have I2 : Inv X pins σ (upd H1 s1.heap.objs.size (SetO X.w s1.heap.objs.size (fun j => decide (j ∈ ns)) c)) { s1 with heap := h', toks := tk } := I1.laid (fun b u e => hk b u e) (Nat.le_refl _) (setO_new R)
  exact cr_sortedSet hc pins _ σ _ [V.ref s1.heap.objs.size] _ Q I2 (.cons rfl .nil) ⟨_, _, c, rfl, upd_same, by omega, fun ms p h1 h2 h3 hn => q1 _ _ ms p h1 (fun k => by rw [h2 k, decide_eq_true_eq]) (I1.hok.fresh (Nat.le_refl _)) hn⟩
def tLenSetA (K : PySem.W.Frag) (ta : TE) : TE := fun σ H Q => ta σ H fun x H1 => ∃ (l : Addr) (ns : List Int), x = .ref l ∧ SqL K H1 l (ns.map V.int) ∧ ns.length < 64 ∧ Q (.int ((firstMet (fun i => ns.getD i 0) ns.length).length : Nat)) H1
theorem pe_lenSetA {a : Expr} {ta : TE} {p p2 q pos : Pos} (hc : X.calm = true) (hg : Gl X "len") (hm : X.mg "len" = none) (hg2 : Gl X "set") (hm2 : X.mg "set" = none) (ha : PE X a ta)
    (na : starEach [a] X.env = (false, eval a X.env) :: starEach [] X.env := by rfl) : PE X (.Call (.Name "len" p) [.Call (.Name "set" p2) [a] [] q] [] pos) (tLenSetA X.K ta) := by
  refine ⟨fun pins s σ H Q I h => ?_⟩
  refine Call_ (ld_blt I hg hm PySem.boot_len ?_)
  refine PyProof.Rows.callWith_builtin1 (PyProof.Rows.args_cons ?_ rfl) rfl rfl
  refine Call_ (ld_blt I hg2 hm2 PyProof.Rows.boot_set ?_)
  refine PyProof.Rows.callWith_type1 (PyProof.Rows.args_cons (thn (ha.run pins s σ H _ I h) fun v s1 ⟨x, H1, I1, r1, q1⟩ => PyProof.Rows.args_nil ?_) na) na rfl
  obtain ⟨l, ns, rfl, hq, h1, q1⟩ := q1
  cases r1
  obtain ⟨its, r, pl, hz⟩ := I1.list hq
  have hl : its.toArray.size = ns.length := by rw [List.size_toArray, ← r.length, List.length_map]
  refine call_set_list (I1.ok.hd hc) pl.isList (ns := ns) (by simpa using r.ints) (by unfold scanBound; omega) fun h' tk hS hk => ?_
  rw [hl] at hS
  refine PyProof.Rows.args_nil ?_
  obtain ⟨o, es, ep, t, ho, hex, hd, _, _, hsz, hf, hn⟩ := hS
  have I2 : Inv X pins σ H1 { s1 with heap := h', toks := tk } := I1.kept fun b o e => hk b o (Heap.lt_size e) e
  refine call_len_set ho hex hd hf (by unfold scanBound at *; omega) ⟨.int _, H1, I2.tok _, ⟨_, by rw [hn]⟩, q1⟩
end
end GA
namespace GA
open PySem PySem.Spec PyProof.Rows L2
def dSortSet : D → Option D
  | .list ds => (dInts ds).bind fun ns => if ns.length < 64 then some (.list ((sortS ns).map .int)) else none
  | _ => none
def dLenSet : D → Option D
  | .list ds => (dInts ds).bind fun ns => if ns.length < 64 then some (.int ((firstMet (fun i => ns.getD i 0) ns.length).length : Nat)) else none
  | _ => none
section
variable {X : Cx} {K : Nat → Addr} {c : C} {E : XK} {Γ : List Sl} {F F' H H' : Hp} {σ : L2.St} {pos : Pos} {a : Expr} {ma : WP D}
theorem e_sortSet {p p2 q : Pos} (hc : X.calm = true) (hg : Gl X "sorted") (hm : X.mg "sorted" = none) (hg2 : Gl X "set") (hm2 : X.mg "set" = none) (ha : PE X a (tR K c E Γ ma))
    (na : starEach [a] X.env = (false, eval a X.env) :: starEach [] X.env := by rfl) : PE X (.Call (.Name "sorted" p) [.Call (.Name "set" p2) [a] [] q] [] pos) (tW K c E Γ (ma.bind fun d => .opt (dSortSet d))) :=
  pe_weak (pe_sortSet hc hg hm hg2 hm2 ha na) fun σ H Q ⟨F, o, r⟩ => by
    refine ⟨F, o, ma.mono _ _ _ _ (fun d q v F1 H1 o1 g1 x1 => ?_) (fun _ z => z) r⟩
    obtain ⟨z, hd, q⟩ := WP.opt_run q
    cases d <;> simp only [dSortSet] at hd <;> try cases hd
    rename_i ds
    obtain ⟨l, vs, rfl, h1, t1⟩ := x1.list o1.bs.fh
    cases e : dInts ds with
    | none => rw [e] at hd; cases hd
    | some ns =>
      rw [e] at hd
      simp only [Option.bind_some] at hd
      split at hd
      · rename_i hn
        cases hd
        cases ints_rp t1 e
        refine ⟨l, ns, rfl, .inl (.inl h1), hn, fun b u ms p hp hk hb hpn => ?_⟩
        rw [incr_unique hp (sortS_incr ns) fun k => by rw [hk k, mem_sortS]]
        exact new_lst (o1.alloc hb) hpn (rp_ints _) fun v F' H' o' g' x' => q v F' H' o' (g1.trans ((Gr.new (ex_none o1.bs.fh hb) hb).trans g')) x'
      · cases hd
theorem e_lenSet {p p2 q : Pos} (hc : X.calm = true) (hg : Gl X "len") (hm : X.mg "len" = none) (hg2 : Gl X "set") (hm2 : X.mg "set" = none) (ha : PE X a (tR K c E Γ ma))
    (na : starEach [a] X.env = (false, eval a X.env) :: starEach [] X.env := by rfl) : PE X (.Call (.Name "len" p) [.Call (.Name "set" p2) [a] [] q] [] pos) (tW K c E Γ (ma.bind fun d => .opt (dLenSet d))) :=
  pe_weak (pe_lenSetA hc hg hm hg2 hm2 ha na) fun σ H Q ⟨F, o, r⟩ => by
    refine ⟨F, o, ma.mono _ _ _ _ (fun d q v F1 H1 o1 g1 x1 => ?_) (fun _ z => z) r⟩
    obtain ⟨z, hd, q⟩ := WP.opt_run q
    cases d <;> simp only [dLenSet] at hd <;> try cases hd
    rename_i ds
    obtain ⟨l, vs, rfl, h1, t1⟩ := x1.list o1.bs.fh
    cases e : dInts ds with
    | none => rw [e] at hd; cases hd
    | some ns =>
      rw [e] at hd
      simp only [Option.bind_some] at hd
      split at hd
      · rename_i hn
        cases hd
        cases ints_rp t1 e
        exact ⟨l, ns, rfl, .inl (.inl h1), hn, q _ F1 H1 o1 g1 (.int _)⟩
      · cases hd
end
end GA
namespace GA
open PySem PySem.Spec PyProof.Rows L2
/-! x.remove(e), x a list of ints of one's own -/
def posI (k : Int) : List Int → Option Nat
  | [] => none
  | x :: xs => if x = k then some 0 else (posI k xs).map (· + 1)
theorem posI_some {k : Int} : ∀ {ns : List Int} {j : Nat}, posI k ns = some j → ns[j]? = some k ∧ ∀ m : Nat, m < j → ns[m]? ≠ some k
  | [], _, h => by cases h
  | x :: xs, j, h => by
    unfold posI at h
    split at h
    · rename_i e
      cases h
      exact ⟨by rw [e]; rfl, fun m hm => by omega⟩
    · rename_i e
      obtain ⟨i, hi, rfl⟩ := Option.map_eq_some_iff.mp h
      obtain ⟨h1, h2⟩ := posI_some hi
      refine ⟨by simpa using h1, fun m hm => ?_⟩
      cases m with
      | zero => intro z; simp at z; exact e z
      | succ m => rw [List.getElem?_cons_succ]; exact h2 m (by omega)
def dRem (ds : List D) : D → Option (List D)
  | .int k => (dInts ds).bind fun ns => (posI k ns).map fun j => (ns.eraseIdx j).map .int
  | _ => none
section
variable {X : Cx} {K : Nat → Addr} {c : C} {E : XK} {Γ : List Sl} {F F' H H' : Hp} {σ : L2.St} {pos : Pos} {e : Expr} {m : WP D}
theorem s_rem (i : Nat) {x : Str} {ds : List D} {p apos cpos : Pos} (hN : X.N[i]? = some x) (hv : Vis X.env.scope x) (hi : Γ[i]? = some (own K ds)) (he : PE X e (tW K c E Γ m)) (hd : (x == ("__debug__" : Str)) = false := by decide) (hcd : (x == ("__classdict__" : Str)) = false := by decide)
    (hbase : attributeBase (.Name x p) "remove" X.env (eval (.Name x p) X.env) = eval (.Name x p) X.env := by rfl)
    (hfew : ((backTo cpos (starEach (e :: []) X.env)).all (fun x => !x.1) && (backToKw cpos (keywordEach [] X.env)).all (fun x => x.1.isSome)
      && decide ((e :: []).length + ([] : List Keyword).length + (if ([] : List Keyword).isEmpty then 0 else 1) < 30)) = true := by rfl)
    (hline : (apos.endLine == cpos.line) = true := by rfl) (hs : starEach (e :: []) X.env = (false, eval e X.env) :: starEach [] X.env := by rfl) (hplain : (backTo cpos (starEach [] X.env)).any (·.1) = false := by rfl)
    (hsw : swapsWith (.Call (.Attribute (.Name x p) "remove" apos) [e] [] cpos) none pos.line X.env = pure false := by rfl) :
    PS X (.Expr (.Call (.Attribute (.Name x p) "remove" apos) [e] [] cpos) pos) (tX K c E Γ (m.bind fun d => .opt (dRem ds d)) fun ds' => Γ.set i (own K ds')) :=
  ps_weak (ps_expr (pe_bm PySem.F.plainAttrs_list PySem.F.slot_list_remove PySem.F.type_list_remove mt_remove (pe_var hN hv hd hcd) (pa_cons he pa_nil hs) hbase hfew hline hs hplain) hsw) fun D σ H ⟨F, o, r⟩ => by
    obtain ⟨a, vs, h1, h2, t2, n2⟩ := o.own_at hi
    refine ⟨_, h1, .inl ⟨rfl, vs, .inl (.inl h2)⟩, F, o, m.mono _ _ _ _ (fun d p v F1 H1 o1 g1 x1 => ?_) (fun _ z => z) r⟩
    obtain ⟨es, hes, p⟩ := WP.opt_run p
    cases d <;> simp only [dRem] at hes <;> try cases hes
    rename_i k
    obtain ⟨a', vs', q0, q1, q2, q3⟩ := o1.write (ds' := ds) hi h1
    cases q0
    cases e1 : dInts ds with
    | none => rw [e1] at hes; cases hes
    | some ns =>
      rw [e1, Option.bind_some] at hes
      obtain ⟨j, hj, rfl⟩ := Option.map_eq_some_iff.mp hes
      obtain ⟨j1, j2⟩ := posI_some hj
      cases ints_rp q2 e1
      cases x1
      exact ⟨a, ns, k, j, rfl, rfl, q1, j1, j2, p _ F1 _ (q3 _ _ (rp_ints _)) g1.f⟩
end
end GA
namespace GA
open PySem PySem.Spec PyProof.Rows L2
/-! a dict of ints of one's own -/
def kvD (kvs : List (Int × Int)) : List (Key × V) := kvs.map fun p => (.inl p.1, V.int p.2)
def valI (kvs : List (Int × Int)) (k : Int) : Option Int := (kvs.find? fun kv => decide (kv.1 = k)).map (·.2)
def putI' (kvs : List (Int × Int)) (k v : Int) : List (Int × Int) := if (kvs.any fun kv => decide (kv.1 = k)) = true then kvs.map (fun kv => if kv.1 = k then (kv.1, v) else kv) else kvs ++ [(k, v)]
theorem valV_kvD (k : Int) : ∀ kvs : List (Int × Int), valV (kvD kvs) (.inl k) = (valI kvs k).map V.int
  | [] => rfl
  | p :: r => by
    have ih := valV_kvD k r
    by_cases e : p.1 = k
    · rw [show kvD (p :: r) = (.inl p.1, V.int p.2) :: kvD r from rfl, valV_pos (by rw [e])]
      simp [valI, List.find?_cons, e]
    · rw [show kvD (p :: r) = (.inl p.1, V.int p.2) :: kvD r from rfl, valV_neg (fun z => e (by cases z; rfl)), ih]
      simp [valI, List.find?_cons, e]
theorem putK_kvD (k v : Int) (kvs : List (Int × Int)) : putK (kvD kvs) (.inl k) (V.int v) = kvD (putI' kvs k v) := by
  have e : ((kvD kvs).any fun kv => decide (kv.1 = (.inl k : Key))) = kvs.any fun kv => decide (kv.1 = k) := by
    unfold kvD
    rw [List.any_map]
    congr 1
    funext p
    exact decide_eq_decide.mpr ⟨fun z => by cases z; rfl, fun z => by show (Sum.inl p.1 : Key) = _; rw [z]⟩
  unfold putK putI'
  rw [e]
  split
  · unfold kvD
    rw [List.map_map, List.map_map]
    refine List.map_congr_left fun p _ => ?_
    show (if (Sum.inl p.1 : Key) = .inl k then ((.inl p.1 : Key), V.int v) else (.inl p.1, V.int p.2)) = _
    by_cases q : p.1 = k
    · rw [if_pos (by rw [q])]
      simp [q]
    · rw [if_neg (fun z => q (by cases z; rfl))]
      simp [q]
  · unfold kvD
    rw [List.map_append]
    rfl
def ownD (kvs : List (Int × Int)) : Sl := .res ⟨fun F H v fp => ∃ a, v = .ref a ∧ fp = [a] ∧ H a = some (.dK (kvD kvs)), fun F F' H H' v fp e h ⟨a, e1, e2, h1⟩ => ⟨a, e1, e2, by rw [h a (by rw [e2]; exact List.mem_singleton.mpr rfl)]; exact h1⟩⟩
section
variable {X : Cx} {K : Nat → Addr} {c : C} {E : XK} {Γ : List Sl} {F F' H H' : Hp} {σ : L2.St} {pos : Pos} {e : Expr} {m : WP D}
theorem Ok.ownD_at {i : Nat} {kvs : List (Int × Int)} (o : Ok K c F H σ Γ) (h : Γ[i]? = some (ownD kvs)) : ∃ a, σ[i]? = some (some (.ref a)) ∧ H a = some (.dK (kvD kvs)) := by
  obtain ⟨π, x⟩ := o
  obtain ⟨ov, h1, v, rfl, a, rfl, h2, h3⟩ := x.sl i _ h
  exact ⟨a, h1, h3⟩
theorem Ok.writeD {i : Nat} {kvs : List (Int × Int)} {v : V} (o : Ok K c F H σ Γ) (h : Γ[i]? = some (ownD kvs)) (hv : σ[i]? = some (some v)) : ∃ a, v = .ref a ∧ H a = some (.dK (kvD kvs)) ∧ ∀ kvs', Ok K c F (upd H a (.dK (kvD kvs'))) σ (Γ.set i (ownD kvs')) := by
  obtain ⟨π, x⟩ := o
  obtain ⟨ov, h1, v', rfl, a, rfl, h2, h3⟩ := x.sl i _ h
  rw [hv] at h1
  cases h1
  have ha : a ∈ π i := by rw [h2]; exact List.mem_singleton.mpr rfl
  obtain ⟨f1, f2, f3⟩ := x.fr i a ha
  refine ⟨a, rfl, h3, fun kvs' => ⟨π, ⟨fun b u q => ?_, x.bs.f0, fun b u q n => ?_, x.bs.nw, x.bs.fx, x.bs.hx, fun b hb => ?_, ?_⟩, by simp [x.len], fun j s hj => ?_, fun j b hb => ?_, x.dj⟩⟩
  · have e : b ≠ a := fun e => by subst e; rw [f1] at q; cases q
    rw [upd_ne e]; exact x.bs.fh b u q
  · have e : b ≠ a := fun e => by subst e; rw [f3] at q; cases q
    rw [upd_ne e]; exact x.bs.h0 b u q n
  · have e : b ≠ a := fun e => by subst e; exact x.bs.hx b hb f3
    rw [upd_ne e]; exact x.bs.xh b hb
  · refine c.rst H _ (fun b hb => ?_) x.bs.rv
    have e : b ≠ a := fun e => by subst e; exact x.bs.hx b hb f3
    rw [upd_ne e]
  · by_cases q : i = j
    · subst q
      have hi : i < Γ.length := (List.getElem?_eq_some_iff.mp h).1
      rw [List.getElem?_set_self hi] at hj
      cases hj
      exact ⟨_, hv, _, rfl, a, rfl, h2, upd_same⟩
    · rw [List.getElem?_set_ne q] at hj
      obtain ⟨ov, k1, k2⟩ := x.sl j s hj
      refine ⟨ov, k1, sl_mono (exR F) (fun b hb => ?_) k2⟩
      have e : b ≠ a := fun e => by subst e; exact q (x.dj i j b ha hb)
      rw [upd_ne e]
  · obtain ⟨g1, g2, g3⟩ := x.fr j b hb
    refine ⟨g1, ?_, g3⟩
    by_cases e : b = a
    · subst e; rw [upd_same]; exact fun z => by cases z
    · rw [upd_ne e]; exact g2
def dGetI (kvs : List (Int × Int)) : D → Option D
  | .int k => (valI kvs k).map .int
  | _ => none
def dHasI (kvs : List (Int × Int)) : D → Option D
  | .int k => some (.bool (valI kvs k).isSome)
  | _ => none
/-- x[k] -/
theorem e_dgetI (i : Nat) {x : Str} {kvs : List (Int × Int)} {p : Pos} (hu : X.A.units + 1 < cLine) (hN : X.N[i]? = some x) (hv : Vis X.env.scope x) (hi : Γ[i]? = some (ownD kvs)) (he : PE X e (tW K c E Γ m)) (hs : NoSl e) (hd : (x == ("__debug__" : Str)) = false := by decide) (hcd : (x == ("__classdict__" : Str)) = false := by decide) :
    PE X (.Subscript (.Name x p) e pos) (tW K c E Γ (m.bind fun d => .opt (dGetI kvs d))) :=
  pe_weak (pe_dget hu (pe_var hN hv hd hcd) he hs) fun σ H Q ⟨F, o, r⟩ => by
    obtain ⟨a, h1, h2⟩ := o.ownD_at hi
    refine ⟨_, h1, F, o, m.mono _ _ _ _ (fun d q v F1 H1 o1 g1 x1 => ?_) (fun _ z => z) r⟩
    obtain ⟨z, hz, q⟩ := WP.opt_run q
    cases d <;> simp only [dGetI] at hz <;> try cases hz
    rename_i k
    obtain ⟨n, hn, rfl⟩ := Option.map_eq_some_iff.mp hz
    cases x1
    obtain ⟨a', h1', h2'⟩ := o1.ownD_at hi
    rw [h1] at h1'
    cases h1'
    refine ⟨a, V.int n, rfl, ?_, q _ F1 H1 o1 g1 (.int _)⟩
    have := DGet.k (k := .inl k) h2'
    rw [valV_kvD, hn] at this
    exact this
/-- k in x -/
theorem e_dhas (i : Nat) {x : Str} {kvs : List (Int × Int)} {p : Pos} (hu : X.A.units + 1 < cLine) (hN : X.N[i]? = some x) (hv : Vis X.env.scope x) (hi : Γ[i]? = some (ownD kvs)) (he : PE X e (tW K c E Γ m)) (hm : behindInMarks .In (.Name x p) = false := by rfl) (hd : (x == ("__debug__" : Str)) = false := by decide) (hcd : (x == ("__classdict__" : Str)) = false := by decide) :
    PE X (.Compare e [.In] [.Name x p] pos) (tW K c E Γ (m.bind fun d => .opt (dHasI kvs d))) :=
  pe_weak (pe_cmp (pc_din hu he (pe_var hN hv hd hcd)) hm) fun σ H Q ⟨F, o, r⟩ => by
    refine ⟨F, o, m.mono _ _ _ _ (fun d q v F1 H1 o1 g1 x1 => ?_) (fun _ z => z) r⟩
    obtain ⟨z, hz, q⟩ := WP.opt_run q
    match d, hz, x1 with
    | .int k, hz, .int _ =>
    cases hz
    obtain ⟨a, h1, h2⟩ := o1.ownD_at hi
    refine ⟨_, h1, a, _, rfl, DGet.k (k := .inl k) h2, ?_⟩
    have := q _ F1 H1 o1 g1 (.bl _)
    rw [valV_kvD, Option.isSome_map]
    exact this
def dGetI2 (kvs : List (Int × Int)) : D → D → Option D
  | .int k, .int d => some (.int ((valI kvs k).getD d))
  | _, _ => none
/-- x.get(k, d) -/
theorem e_dget2 (i : Nat) {x : Str} {kvs : List (Int × Int)} {p apos : Pos} {f : Expr} {m2 : WP D} (hu : X.A.units + 1 < cLine) (hN : X.N[i]? = some x) (hv : Vis X.env.scope x) (hi : Γ[i]? = some (ownD kvs)) (he : PE X e (tW K c E Γ m)) (hf : PE X f (tW K c E Γ m2)) (hm : M2 X (.Name x p) "get" apos e f pos) (hd : (x == ("__debug__" : Str)) = false := by decide) (hcd : (x == ("__classdict__" : Str)) = false := by decide) :
    PE X (.Call (.Attribute (.Name x p) "get" apos) [e, f] [] pos) (tW K c E Γ (m.bind fun d => m2.bind fun d2 => .opt (dGetI2 kvs d d2))) :=
  pe_weak (pe_dget2 hu (pe_var hN hv hd hcd) he hf hm) fun σ H Q ⟨F, o, r⟩ => by
    obtain ⟨a, h1, h2⟩ := o.ownD_at hi
    refine ⟨_, h1, a, rfl, .inl ⟨_, .inl h2⟩, F, o, m.mono _ _ _ _ (fun d q v F1 H1 o1 g1 x1 => ⟨F1, o1, m2.mono _ _ _ _ (fun d2 q v2 F2 H2 o2 g2 x2 => ?_) (fun _ z => z) q⟩) (fun _ z => z) r⟩
    obtain ⟨z, hz, q⟩ := WP.opt_run q
    match d, d2, hz, x1, x2 with
    | .int k, .int n, hz, .int _, .int _ =>
    cases hz
    obtain ⟨a', h1', h2'⟩ := o2.ownD_at hi
    rw [h1] at h1'
    cases h1'
    refine ⟨_, DGet.k (k := .inl k) h2', ?_⟩
    have := q (V.int ((valI kvs k).getD n)) F2 H2 o2 (g1.trans g2) (.int _)
    rw [valV_kvD]
    revert this
    cases valI kvs k <;> exact fun this => this
def dPutI (kvs : List (Int × Int)) : D → D → Option (List (Int × Int))
  | .int v, .int k => if kvs.length < LIM then some (putI' kvs k v) else none
  | _, _ => none
/-- x[k] = v -/
theorem s_dput (i : Nat) {x : Str} {kvs : List (Int × Int)} {p pos' : Pos} {f : Expr} {m2 : WP D} (hu : X.A.units + 1 < cLine) (hN : X.N[i]? = some x) (hv : Vis X.env.scope x) (hi : Γ[i]? = some (ownD kvs)) (he : PE X e (tW K c E Γ m)) (hf : PE X f (tW K c E Γ m2)) (hs : swapsWith e (some (.Subscript (.Name x p) f pos')) pos.line X.env = pure false := by rfl) (hd : (x == ("__debug__" : Str)) = false := by decide) (hcd : (x == ("__classdict__" : Str)) = false := by decide) :
    PS X (.Assign [.Subscript (.Name x p) f pos'] e pos) (tX K c E Γ (m.bind fun v => m2.bind fun k => .opt (dPutI kvs v k)) fun kvs' => Γ.set i (ownD kvs')) :=
  ps_weak (ps_dput hu (pe_var hN hv hd hcd) hf he hs) fun D σ H ⟨F, o, r⟩ => by
    refine ⟨F, o, m.mono _ _ _ _ (fun d q v F1 H1 o1 g1 x1 => ?_) (fun _ z => z) r⟩
    obtain ⟨a, h1, h2⟩ := o1.ownD_at hi
    refine ⟨_, h1, F1, o1, m2.mono _ _ _ _ (fun d2 q v2 F2 H2 o2 g2 x2 => ?_) (fun _ z => z) q⟩
    obtain ⟨z, hz, q⟩ := WP.opt_run q
    match d, d2, hz, x1, x2 with
    | .int n, .int k, hz, .int _, .int _ =>
    simp only [dPutI] at hz
    split at hz <;> cases hz
    rename_i hl
    obtain ⟨a', e0, h2', w⟩ := o2.writeD hi h1
    cases e0
    have := DPut.k (k := .inl k) (v := V.int n) h2' (by unfold kvD; rw [List.length_map]; exact lim_lt hl)
    rw [putK_kvD] at this
    exact ⟨a, _, rfl, this, q _ F2 _ (w _) (exT g1.f g2.f)⟩
/-- x = {} -/
theorem s_dict0 (i : Nat) {x : Str} {pos' pos2 : Pos} (hN : X.N.Nodup) (hi : X.N[i]? = some x) (hx : Loc X.env.scope x) (hs : swapsWith (.Dict [] [] pos2) (some (.Name x pos')) pos.line X.env = pure false := by rfl) (hf : X.fn x = true ∨ X.env.scope.names.lookup x = some .local := by first | exact .inl rfl | exact .inr rfl | assumption) :
    PS X (.Assign [.Name x pos'] (.Dict [] [] pos2) pos) (tX K c E Γ (.ret []) fun kvs => Γ.set i (ownD kvs)) :=
  ps_weak (ps_set hN hi hx pe_dnewK hs hf) fun D σ H ⟨F, o, r⟩ => fun a hn => r _ F _ (o.setR ⟨a, rfl, rfl, upd_same⟩ (fun b hb => by
    cases List.mem_singleton.mp hb
    exact ⟨hn, by rw [upd_same]; exact fun z => by cases z⟩) (Evl.Ex.new hn)) (exR F)
end
end GA
namespace GA
open PySem PySem.Spec PyProof.Rows L2
/-! texts: str(int), sep.join(list) -/
def dStrI : List D → Option D
  | [.int i] => if -1000000 ≤ i ∧ i ≤ 1000000 then some (.str (toString i)) else none
  | _ => none
def dStrs : List D → Option (List Str)
  | [] => some []
  | .str s :: r => (dStrs r).map (s :: ·)
  | _ :: _ => none
def dStr : D → Option Str
  | .str s => some s
  | _ => none
def dJoin (a : Str) : D → Option D
  | .list ds => (dStrs ds).bind fun ys => if (ys.map (·.length)).sum + ys.length * a.length ≤ 16777216 then some (.str (Txt.join a ys)) else none
  | _ => none
theorem strs_rp {K : Nat → Addr} {F : Hp} : ∀ {vs : List V} {ds : List D} {ys : List Str}, RpAll K F vs ds → dStrs ds = some ys → vs = ys.map V.str
  | _, _, _, .nil, h => by cases h; rfl
  | _, _, _, .cons h t, e => by
    cases h <;> simp only [dStrs] at e <;> try cases e
    rename_i x
    obtain ⟨zs, e1, rfl⟩ := Option.map_eq_some_iff.mp e
    rw [strs_rp t e1]
    rfl
section
variable {X : Cx} {K : Nat → Addr} {c : C} {E : XK} {Γ : List Sl} {F F' H H' : Hp} {σ : L2.St} {pos : Pos} {e : Expr} {m : WP D}
theorem cd_str : CallD K (fun xs H Q => ∃ i, xs = [.int i] ∧ i.natAbs.log2 < 1920 ∧ Q (.str (toString i)) H) dStrI := by
  intro c Γ σ F H vs ds z Q o hx hf q
  unfold dStrI at hf
  split at hf
  · rename_i i
    split at hf
    · rename_i hi
      cases hf
      refine ⟨i, rd_ints1 hx, ?_, q _ F H o .refl (.str _)⟩
      have h1 : i.natAbs < 2 ^ 20 := by omega
      by_cases h0 : i.natAbs = 0
      · rw [h0]; decide
      · have : i.natAbs.log2 < 20 := (Nat.log2_lt h0).mpr h1
        omega
    · cases hf
  · cases hf
theorem e_join {o : Expr} {mo : WP D} {apos : Pos} (ho : PE X o (tW K c E Γ mo)) (he : PE X e (tR K c E Γ m))
    (hs : starEach [e] X.env = [(false, eval e X.env)] := by rfl) (hbase : attributeBase o "join" X.env (eval o X.env) = eval o X.env := by rfl) (hline : (apos.endLine == pos.line) = true := by rfl) :
    PE X (.Call (.Attribute o "join" apos) [e] [] pos) (tW K c E Γ (mo.bind fun x => (WP.opt (dStr x)).bind fun s => m.bind fun d => .opt (dJoin s d))) :=
  pe_weak (pe_join ho he hs hbase hline) fun σ H Q ⟨F, o, r⟩ => by
    refine ⟨F, o, mo.mono _ _ _ _ (fun d r1 v F1 H1 o1 g1 x1 => ?_) (fun _ z => z) r⟩
    obtain ⟨s, hs, r1⟩ := WP.opt_run r1
    cases d <;> simp only [dStr] at hs <;> try cases hs
    cases x1
    refine ⟨⟨_, rfl⟩, F1, o1, m.mono _ _ _ _ (fun d r2 w F2 H2 o2 g2 x2 => ?_) (fun _ z => z) r1⟩
    obtain ⟨z, hz, r3⟩ := WP.opt_run r2
    cases d <;> simp only [dJoin] at hz <;> try cases hz
    rename_i ds
    cases e1 : dStrs ds with
    | none => rw [e1] at hz; cases hz
    | some ys =>
      rw [e1, Option.bind_some] at hz
      split at hz <;> cases hz
      rename_i hl
      obtain ⟨a, vs, rfl, h1, t1⟩ := x2.list o2.bs.fh
      cases strs_rp t1 e1
      exact ⟨s, a, ys, rfl, rfl, .inl (.inl (.inl h1)), hl, r3 _ F2 H2 o2 (g1.trans g2) (.str _)⟩
end
/-! own dicts: not in, {k: v}, for k in d -/
section
variable {X : Cx} {K : Nat → Addr} {c : C} {E : XK} {Γ : List Sl} {F F' H H' : Hp} {σ : L2.St} {pos : Pos} {e : Expr} {m : WP D}
def dHasN (kvs : List (Int × Int)) : D → Option D
  | .int k => some (.bool (!(valI kvs k).isSome))
  | _ => none
/-- k not in x -/
theorem e_dnot (i : Nat) {x : Str} {kvs : List (Int × Int)} {p : Pos} (hu : X.A.units + 1 < cLine) (hN : X.N[i]? = some x) (hv : Vis X.env.scope x) (hi : Γ[i]? = some (ownD kvs)) (he : PE X e (tW K c E Γ m)) (hm : behindInMarks .NotIn (.Name x p) = false := by rfl) (hd : (x == ("__debug__" : Str)) = false := by decide) (hcd : (x == ("__classdict__" : Str)) = false := by decide) :
    PE X (.Compare e [.NotIn] [.Name x p] pos) (tW K c E Γ (m.bind fun d => .opt (dHasN kvs d))) :=
  pe_weak (pe_cmp (pc_dnotin hu he (pe_var hN hv hd hcd)) hm) fun σ H Q ⟨F, o, r⟩ => by
    refine ⟨F, o, m.mono _ _ _ _ (fun d q v F1 H1 o1 g1 x1 => ?_) (fun _ z => z) r⟩
    obtain ⟨z, hz, q⟩ := WP.opt_run q
    match d, hz, x1 with
    | .int k, hz, .int _ =>
    cases hz
    obtain ⟨a, h1, h2⟩ := o1.ownD_at hi
    refine ⟨_, h1, a, _, rfl, DGet.k (k := .inl k) h2, ?_⟩
    have := q _ F1 H1 o1 g1 (.bl _)
    rw [valV_kvD, Option.isSome_map]
    exact this
def dDisp1 : D → D → Option (List (Int × Int))
  | .int k, .int v => some [(k, v)]
  | _, _ => none
/-- x = {y: n} -/
theorem s_dict1 (i j : Nat) {x y : Str} {d : D} {n : Int} {t : Nat} {pos' pos2 p1 p2 : Pos} (hN : X.N.Nodup) (hi : X.N[i]? = some x) (hx : Loc X.env.scope x) (hj : X.N[j]? = some y) (hy : Vis X.env.scope y) (hd : Γ[j]? = some (.imm d))
    (hs : swapsWith (.Dict [some (.Name y p1)] [.Constant (.int n) t p2] pos2) (some (.Name x pos')) pos.line X.env = pure false := by rfl) (hf : X.fn x = true ∨ X.env.scope.names.lookup x = some .local := by first | exact .inl rfl | exact .inr rfl | assumption) (h1 : (y == ("__debug__" : Str)) = false := by decide) (h2 : (y == ("__classdict__" : Str)) = false := by decide) :
    PS X (.Assign [.Name x pos'] (.Dict [some (.Name y p1)] [.Constant (.int n) t p2] pos2) pos) (tX K c E Γ (.opt (dDisp1 d (.int n))) fun kvs => Γ.set i (ownD kvs)) :=
  ps_weak (ps_set hN hi hx (pe_disp (pps_cons (pe_var hj hy h1 h2) pe_int pps_nil) rfl rfl (by simp) (by simp)) hs hf) fun D σ H ⟨F, o, r⟩ => fun p hn => by
    obtain ⟨kvs, hk, r⟩ := WP.opt_run r
    obtain ⟨π, op⟩ := id o
    obtain ⟨ov, q1, v, rfl, q2⟩ := op.sl j _ hd
    match d, hk, q2 with
    | .int k, hk, .int _ =>
    cases hk
    refine ⟨_, q1, upd_same, [(.inl k, V.int n)], rfl, by simp, ?_⟩
    rw [upd_upd]
    exact r _ F _ (o.setR ⟨p, rfl, rfl, upd_same⟩ (fun b hb => by
      cases List.mem_singleton.mp hb
      exact ⟨hn, by rw [upd_same]; exact fun z => by cases z⟩) (Evl.Ex.new hn)) (exR F)
/-- what stands at an own cell is changed -/
theorem Ok.writeU {i : Nat} {r r' : Res} {a : Addr} {u : HO} {v : V} (o : Ok K c F H σ Γ) (h : Γ[i]? = some (.res r)) (hv : σ[i]? = some (some v)) (hr : ∀ fp, r.ok F H v fp → fp = [a]) (hr' : r'.ok F (upd H a u) v [a]) : Ok K c F (upd H a u) σ (Γ.set i (.res r')) ∧ ¬ c.ex a ∧ F a = none := by
  obtain ⟨π, x⟩ := o
  obtain ⟨ov, h1, v', rfl, h3⟩ := x.sl i _ h
  rw [hv] at h1
  cases h1
  have h2 := hr _ h3
  have ha : a ∈ π i := by rw [h2]; exact List.mem_singleton.mpr rfl
  obtain ⟨f1, f2, f3⟩ := x.fr i a ha
  refine ⟨⟨π, ⟨fun b u q => ?_, x.bs.f0, fun b u q n => ?_, x.bs.nw, x.bs.fx, x.bs.hx, fun b hb => ?_, ?_⟩, by simp [x.len], fun j s hj => ?_, fun j b hb => ?_, x.dj⟩, fun z => x.bs.hx a z f3, f1⟩
  · have e : b ≠ a := fun e => by subst e; rw [f1] at q; cases q
    rw [upd_ne e]; exact x.bs.fh b u q
  · have e : b ≠ a := fun e => by subst e; rw [f3] at q; cases q
    rw [upd_ne e]; exact x.bs.h0 b u q n
  · have e : b ≠ a := fun e => by subst e; exact x.bs.hx b hb f3
    rw [upd_ne e]; exact x.bs.xh b hb
  · refine c.rst H _ (fun b hb => ?_) x.bs.rv
    have e : b ≠ a := fun e => by subst e; exact x.bs.hx b hb f3
    rw [upd_ne e]
  · by_cases q : i = j
    · subst q
      have hi : i < Γ.length := (List.getElem?_eq_some_iff.mp h).1
      rw [List.getElem?_set_self hi] at hj
      cases hj
      exact ⟨_, hv, _, rfl, by rw [h2]; exact hr'⟩
    · rw [List.getElem?_set_ne q] at hj
      obtain ⟨ov, k1, k2⟩ := x.sl j s hj
      refine ⟨ov, k1, sl_mono (exR F) (fun b hb => ?_) k2⟩
      have e : b ≠ a := fun e => by subst e; exact q (x.dj i j b ha hb)
      rw [upd_ne e]
  · obtain ⟨g1, g2, g3⟩ := x.fr j b hb
    refine ⟨g1, ?_, g3⟩
    by_cases e : b = a
    · subst e; rw [upd_same]; exact fun z => by cases z
    · rw [upd_ne e]; exact g2
/-- an own dict that is being walked -/
def lckD (kvs : List (Int × Int)) : Sl := .res ⟨fun F H v fp => ∃ a od, v = .ref a ∧ fp = [a] ∧ H a = some (.frz od (.dK (kvD kvs))), fun F F' H H' v fp e h ⟨a, od, e1, e2, h1⟩ => ⟨a, od, e1, e2, by rw [h a (by rw [e2]; exact List.mem_singleton.mpr rfl)]; exact h1⟩⟩
theorem Ok.lckD_at {i : Nat} {kvs : List (Int × Int)} (o : Ok K c F H σ Γ) (h : Γ[i]? = some (lckD kvs)) : ∃ a od, σ[i]? = some (some (.ref a)) ∧ H a = some (.frz od (.dK (kvD kvs))) ∧ ¬ c.ex a := by
  obtain ⟨π, x⟩ := o
  obtain ⟨ov, h1, v, rfl, a, od, rfl, h2, h3⟩ := x.sl i _ h
  obtain ⟨f1, f2, f3⟩ := x.fr i a (by rw [h2]; exact List.mem_singleton.mpr rfl)
  exact ⟨a, od, h1, h3, fun z => x.bs.hx a z f3⟩
theorem upd_comm {H : Hp} {a b : Addr} {o u : HO} (h : a ≠ b) : upd (upd H a o) b u = upd (upd H b u) a o := by
  funext x
  by_cases e : x = b
  · subst e; rw [upd_same, upd_ne (Ne.symm h), upd_same]
  · rw [upd_ne e]
    by_cases e2 : x = a
    · subst e2; rw [upd_same, upd_same]
    · rw [upd_ne e2, upd_ne e2, upd_ne e]
/-- a new list is made while an own dict is locked -/
theorem o_lock (i : Nat) {kvs : List (Int × Int)} {m : WP (List D)} (hi : Γ[i]? = some (ownD kvs)) (h : PE X e (tO K c E (Γ.set i (lckD kvs)) m)) : PE X e (tO K c E Γ m) :=
  pe_weak (pe_lock h) fun σ H Q ⟨F, o, r⟩ => by
    obtain ⟨a, h1, h2⟩ := o.ownD_at hi
    have hl : i < Γ.length := (List.getElem?_eq_some_iff.mp hi).1
    refine ⟨a, _, h2, trivial, fun od => ?_⟩
    obtain ⟨o1, n1, f1⟩ := o.writeU (a := a) (u := .frz od (.dK (kvD kvs))) (r' := ⟨fun F H v fp => ∃ a od, v = .ref a ∧ fp = [a] ∧ H a = some (.frz od (.dK (kvD kvs))), _⟩) hi h1 (fun fp ⟨b, e1, e2, _⟩ => by cases e1; exact e2) ⟨a, od, rfl, rfl, upd_same⟩
    refine ⟨F, o1, m.mono _ _ _ _ (fun ds q p vs F' H' o' g' hp x' => ?_) (fun _ z => z) r⟩
    have ha : H' a = some (.frz od (.dK (kvD kvs))) := g'.h a _ upd_same n1
    have hne : a ≠ p := fun z => by subst z; rw [ha] at hp; cases hp
    refine ⟨by rw [upd_ne hne]; exact ha, ?_⟩
    rw [upd_comm (Ne.symm hne)]
    obtain ⟨o2, n2, f2⟩ := o'.writeU (a := a) (u := .dK (kvD kvs)) (r' := ⟨fun F H v fp => ∃ a, v = .ref a ∧ fp = [a] ∧ H a = some (.dK (kvD kvs)), _⟩) (List.getElem?_set_self hl) h1 (fun fp ⟨b, od, e1, e2, _⟩ => by cases e1; exact e2) ⟨a, rfl, rfl, upd_same⟩
    rw [List.set_set] at o2
    have e0 : Γ.set i (ownD kvs) = Γ := by
      refine List.ext_getElem? fun j => ?_
      by_cases q : i = j
      · subst q; rw [List.getElem?_set_self hl, hi]
      · rw [List.getElem?_set_ne q]
    refine q p vs F' _ (e0 ▸ o2) ⟨g'.f, fun b u hb n => ?_, fun b u hb n => ?_⟩ (by rw [upd_ne (Ne.symm hne)]; exact hp) x'
    · by_cases z : b = a
      · subst z; rw [upd_same, ← hb, h2]
      · rw [upd_ne z]; exact g'.h b u (by rw [upd_ne z]; exact hb) n
    · rcases g'.n b u hb n with z | z
      · exact .inl z
      · by_cases w : b = a
        · subst w; rw [upd_same] at z; cases z
        · rw [upd_ne w] at z; exact .inr z
theorem hu1 {n : Nat} (h : n + 65 < cLine) : n + 1 < cLine := by omega
def keysD (kvs : List (Int × Int)) : List D := kvs.map fun p => .int p.1
/-- for k in x -/
theorem j_keysD (i : Nat) {x : Str} {kvs : List (Int × Int)} {tg : Expr} (hN : X.N[i]? = some x) (hv : Vis X.env.scope x) (hi : Γ[i]? = some (lckD kvs)) (hd : (x == ("__debug__" : Str)) = false := by decide) (hcd : (x == ("__classdict__" : Str)) = false := by decide) :
    PI X tg (.Name x pos) (tJ K c E Γ (.opt (if kvs.length < LIM then some (keysD kvs) else none))) :=
  pi_weak (pi_keys (pe_var hN hv hd hcd)) fun σ H R ⟨F, o, r⟩ => by
    obtain ⟨es, hes, r⟩ := WP.opt_run r
    split at hes <;> cases hes
    rename_i hl
    obtain ⟨a, od, h1, h2, n⟩ := o.lckD_at hi
    have hk : (kvD kvs).length = (keysD kvs).length := by unfold keysD kvD; rw [List.length_map, List.length_map]
    have hw := walk_keys (d := a) (o := od) (kvs := kvD kvs)
    rw [hk] at hw
    refine ⟨_, h1, a, od, rfl, .inl ⟨_, h2, r _ F H o .refl (by unfold keysD; rw [List.length_map]; exact Nat.le_of_lt (lim_lt hl)) ⟨_, _, hw, fun F2 H2 g2 e2 => ⟨g2.h a _ h2 n, fun j v H3 hj y => ?_⟩⟩⟩⟩
    · obtain ⟨rfl, k, w, hk, rfl⟩ := y
      unfold kvD at hk
      rw [List.getElem?_map] at hk
      obtain ⟨p, hp, e⟩ := Option.map_eq_some_iff.mp hk
      cases e
      refine ⟨.int p.1, by unfold keysD; rw [List.getElem?_map, hp]; rfl, .inl ⟨rfl, .int _⟩⟩
/-- x[k], x being walked -/
theorem e_dgetL (i : Nat) {x : Str} {kvs : List (Int × Int)} {p : Pos} (hu : X.A.units + 1 < cLine) (hN : X.N[i]? = some x) (hv : Vis X.env.scope x) (hi : Γ[i]? = some (lckD kvs)) (he : PE X e (tW K c E Γ m)) (hs : NoSl e) (hd : (x == ("__debug__" : Str)) = false := by decide) (hcd : (x == ("__classdict__" : Str)) = false := by decide) :
    PE X (.Subscript (.Name x p) e pos) (tW K c E Γ (m.bind fun d => .opt (dGetI kvs d))) :=
  pe_weak (pe_dget hu (pe_var hN hv hd hcd) he hs) fun σ H Q ⟨F, o, r⟩ => by
    obtain ⟨a, od, h1, h2, _⟩ := o.lckD_at hi
    refine ⟨_, h1, F, o, m.mono _ _ _ _ (fun d q v F1 H1 o1 g1 x1 => ?_) (fun _ z => z) r⟩
    obtain ⟨z, hz, q⟩ := WP.opt_run q
    cases d <;> simp only [dGetI] at hz <;> try cases hz
    rename_i k
    obtain ⟨n, hn, rfl⟩ := Option.map_eq_some_iff.mp hz
    cases x1
    obtain ⟨a', od', h1', h2', _⟩ := o1.lckD_at hi
    rw [h1] at h1'
    cases h1'
    refine ⟨a, V.int n, rfl, ?_, q _ F1 H1 o1 g1 (.int _)⟩
    have : DGet H1 a (kV (.inl k)) (valV (kvD kvs) (.inl k)) := .inl ⟨_, _, .inr ⟨od', h2'⟩, rfl, rfl⟩
    rw [valV_kvD, hn] at this
    exact this
end
end GA
namespace GA
open PySem PySem.Spec PyProof.Rows L2
abbrev DI := List (Int × Int)
/-! a < b of lists of ints -/
def dLtL : D → D → Option D
  | .list a, .list b => (dInts a).bind fun ns => (dInts b).map fun ms => .bool (!rle ms ns)
  | _, _ => none
def rLtR (W : PySem.W.Frag) : R2 := fun x y H Q => ∃ ns ms : List Int, Dp W H x (rowD ns) ∧ Dp W H y (rowD ms) ∧ Q (.bl (!rle ms ns)) H
theorem dataLt_row (ns ms : List Int) : PySem.W.dataLt (rowD ns) (rowD ms) = !rle ms ns := by
  have h := congrFun (congrFun (PySem.W.dataLe_rows (fun b : List Int => b)) ms) ns
  have h2 : (!PySem.W.dataLt (rowD ns) (rowD ms)) = decide (ms ≤ ns) := h
  rw [← rle_eq, ← h2, Bool.not_not]
theorem op_ltR {X : Cx} (hu : X.A.units + 65 < cLine) : OpR X (compareOp .Lt) (rLtR X.K) := by
  intro pins s σ H x y v u Q I rx ry h
  obtain ⟨ns, ms, d1, d2, q⟩ := h
  obtain ⟨as, r1⟩ := Dp.reads I _ _ _ d1 rx
  obtain ⟨bs, r2⟩ := Dp.reads I _ _ _ d2 ry
  refine PySem.W.lt_data r1 r2 ?_ (fun z => by cases z) ?_ ?_
  · unfold rowD
    simp only [PySem.W.alike]
    exact alike_ints _ _
  · have := row_depth ns
    have h3 : min (rowD ns).depth (rowD ms).depth ≤ (rowD ns).depth := Nat.min_le_left _ _
    omega
  · rw [dataLt_row]
    exact ⟨.bl _, H, I, rfl, q⟩
theorem od_ltR {K : Nat → Addr} {W : PySem.W.Frag} : OpD K (rLtR W) dLtL := by
  intro c Γ σ F H x y d e z Q o hx hy hf q
  cases d <;> cases e <;> simp only [dLtL] at hf <;> try cases hf
  rename_i a b
  cases e1 : dInts a with
  | none => rw [e1] at hf; cases hf
  | some ns =>
    rw [e1, Option.bind_some] at hf
    obtain ⟨ms, e2, rfl⟩ := Option.map_eq_some_iff.mp hf
    obtain ⟨p1, vs, rfl, h1, t1⟩ := hx.list o.bs.fh
    obtain ⟨p2, ws, rfl, h2, t2⟩ := hy.list o.bs.fh
    cases ints_rp t1 e1
    cases ints_rp t2 e2
    exact ⟨ns, ms, .lst (.inl (.inl h1)) (dp_ints ns), .lst (.inl (.inl h2)) (dp_ints ms), q _ F H o .refl (.bl _)⟩
section
variable {X : Cx} {K : Nat → Addr} {c : C} {E : XK} {Γ : List Sl} {F F' H H' : Hp} {σ : L2.St} {pos : Pos} {e : Expr} {m : WP D}
theorem q_dhas (i : Nat) {x : Str} {kvs : List (Int × Int)} {p : Pos} (hu : X.A.units + 1 < cLine) (hN : X.N[i]? = some x) (hv : Vis X.env.scope x) (hi : Γ[i]? = some (ownD kvs)) (he : PE X e (tW K c E Γ m)) (hm : behindInMarks .In (.Name x p) = false := by rfl) (hd : (x == ("__debug__" : Str)) = false := by decide) (hcd : (x == ("__classdict__" : Str)) = false := by decide) :
    PT X (.Compare e [.In] [.Name x p] pos) (tT K c E Γ ((m.bind fun d => .opt (dHasI kvs d)).bind fun x => .opt (dBool x))) :=
  pt_weak (pt_cmp (pc_din hu he (pe_var hN hv hd hcd)) hm) fun σ H Q ⟨F, o, r⟩ => by
    refine ⟨F, o, m.mono _ _ _ _ (fun d q v F1 H1 o1 g1 x1 => ?_) (fun _ z => z) r⟩
    obtain ⟨z, hz, q⟩ := WP.opt_run q
    match d, hz, x1 with
    | .int k, hz, .int _ =>
    cases hz
    obtain ⟨y, hy, q⟩ := WP.opt_run q
    cases hy
    obtain ⟨a, h1, h2⟩ := o1.ownD_at hi
    refine ⟨_, h1, a, _, rfl, DGet.k (k := .inl k) h2, _, rfl, ?_⟩
    have := q F1 H1 o1 g1
    rw [valV_kvD, Option.isSome_map]
    exact this
theorem q_dnot (i : Nat) {x : Str} {kvs : List (Int × Int)} {p : Pos} (hu : X.A.units + 1 < cLine) (hN : X.N[i]? = some x) (hv : Vis X.env.scope x) (hi : Γ[i]? = some (ownD kvs)) (he : PE X e (tW K c E Γ m)) (hm : behindInMarks .NotIn (.Name x p) = false := by rfl) (hd : (x == ("__debug__" : Str)) = false := by decide) (hcd : (x == ("__classdict__" : Str)) = false := by decide) :
    PT X (.Compare e [.NotIn] [.Name x p] pos) (tT K c E Γ ((m.bind fun d => .opt (dHasN kvs d)).bind fun x => .opt (dBool x))) :=
  pt_weak (pt_cmp (pc_dnotin hu he (pe_var hN hv hd hcd)) hm) fun σ H Q ⟨F, o, r⟩ => by
    refine ⟨F, o, m.mono _ _ _ _ (fun d q v F1 H1 o1 g1 x1 => ?_) (fun _ z => z) r⟩
    obtain ⟨z, hz, q⟩ := WP.opt_run q
    match d, hz, x1 with
    | .int k, hz, .int _ =>
    cases hz
    obtain ⟨y, hy, q⟩ := WP.opt_run q
    cases hy
    obtain ⟨a, h1, h2⟩ := o1.ownD_at hi
    refine ⟨_, h1, a, _, rfl, DGet.k (k := .inl k) h2, _, rfl, ?_⟩
    have := q F1 H1 o1 g1
    rw [valV_kvD, Option.isSome_map]
    exact this
end
end GA
namespace GA
open PySem PySem.Spec PyProof.Rows L2
/-! an object of the class at K 6 with two lists: labels, past -/
structure Srt where
  labels : List D
  past : List D
def SrAt (K : Nat → Addr) (F H : Hp) (x dx pa : Addr) (st : Srt) : Prop := (x ≠ dx ∧ x ≠ pa ∧ dx ≠ pa) ∧ ∃ lv pvs, H x = some (.ins (K 6) dx [("labels", lv), ("past", .ref pa)]) ∧ H dx = some (.own x) ∧ H pa = some (.lst pvs) ∧ Rp K F lv (.list st.labels) ∧ RpAll K F pvs st.past
section
variable {K : Nat → Addr} {F F' H H' : Hp} {c : C} {σ : L2.St} {Γ Γ' : List Sl} {x dx pa : Addr} {st st' : Srt}
theorem SrAt.mono (h : SrAt K F H x dx pa st) (e : Ex F F') (h1 : H' x = H x) (h2 : H' dx = H dx) (h3 : H' pa = H pa) : SrAt K F' H' x dx pa st := by
  obtain ⟨n, lv, pvs, k1, k2, k3, k4, k5⟩ := h
  exact ⟨n, lv, pvs, h1.trans k1, h2.trans k2, h3.trans k3, dp_mono e k4, dps_mono e k5⟩
theorem SrAt.some (h : SrAt K F H x dx pa st) : H x ≠ none ∧ H dx ≠ none ∧ H pa ≠ none := by
  obtain ⟨n, lv, pvs, k1, k2, k3, _⟩ := h
  rw [k1, k2, k3]
  exact ⟨(fun z => by cases z), (fun z => by cases z), (fun z => by cases z)⟩
theorem SrAt.ex (h : SrAt K F H x dx pa st) (e : Ex F F') (g : ∀ q o, H q = Option.some o → q = x ∨ q = dx ∨ q = pa → H' q = Option.some o) : SrAt K F' H' x dx pa st := by
  obtain ⟨n, lv, pvs, k1, k2, k3, k4, k5⟩ := h
  exact ⟨n, lv, pvs, g _ _ k1 (.inl rfl), g _ _ k2 (.inr (.inl rfl)), g _ _ k3 (.inr (.inr rfl)), dp_mono e k4, dps_mono e k5⟩
def srtA (K : Nat → Addr) (x dx pa : Addr) (st : Srt) : Sl := .res ⟨fun F H v fp => v = .ref x ∧ fp = [x, dx, pa] ∧ SrAt K F H x dx pa st, fun F F' H H' v fp e h ⟨e1, e2, h1⟩ => ⟨e1, e2, h1.mono e (h _ (by rw [e2]; simp)) (h _ (by rw [e2]; simp)) (h _ (by rw [e2]; simp))⟩⟩
def srt (K : Nat → Addr) (st : Srt) : Sl := .res ⟨fun F H v fp => ∃ x dx pa, v = .ref x ∧ fp = [x, dx, pa] ∧ SrAt K F H x dx pa st, fun F F' H H' v fp e h ⟨x, dx, pa, e1, e2, h1⟩ => ⟨x, dx, pa, e1, e2, h1.mono e (h _ (by rw [e2]; simp)) (h _ (by rw [e2]; simp)) (h _ (by rw [e2]; simp))⟩⟩
/-- what is known of the object now -/
structure SrNow (K : Nat → Addr) (c : C) (F H : Hp) (x dx pa : Addr) (st : Srt) : Prop where
  at_ : SrAt K F H x dx pa st
  f : F x = none ∧ F dx = none ∧ F pa = none
  nx : ¬ c.ex x ∧ ¬ c.ex dx ∧ ¬ c.ex pa
def HasSr (K : Nat → Addr) (c : C) (Γ : List Sl) (i : Nat) (st : Srt) : Prop := ∀ F H σ, Ok K c F H σ Γ → ∃ x dx pa, σ[i]? = some (some (.ref x)) ∧ SrNow K c F H x dx pa st
/-- the context knows it: it is read alone -/
structure IsSr (K : Nat → Addr) (c : C) (x dx pa : Addr) (st : Srt) : Prop where
  at_ : SrAt K c.F0 c.H0 x dx pa st
  f : c.F0 x = none ∧ c.F0 dx = none ∧ c.F0 pa = none
  nx : ¬ c.ex x ∧ ¬ c.ex dx ∧ ¬ c.ex pa
  ex0 : ∀ q, ¬ c.ex q
theorem IsSr.now (s : IsSr K c x dx pa st) (b : Bs c F H) : SrNow K c F H x dx pa st := by
  have n := s.at_.some
  have key : ∀ q, c.F0 q = none → c.H0 q ≠ none → F q = none := fun q h1 h2 => by
    cases e : F q with
    | none => rfl
    | some o =>
      rcases b.nw q o e with z | z
      · rw [h1] at z; cases z
      · exact absurd z h2
  refine ⟨s.at_.ex b.f0 fun q o h1 h2 => b.h0 q o h1 ?_, ⟨key _ s.f.1 n.1, key _ s.f.2.1 n.2.1, key _ s.f.2.2 n.2.2⟩, s.nx⟩
  rcases h2 with rfl | rfl | rfl
  · exact s.nx.1
  · exact s.nx.2.1
  · exact s.nx.2.2
theorem hs_val {i : Nat} (s : IsSr K c x dx pa st) (h : Γ[i]? = some (.val (.ref x))) : HasSr K c Γ i st := fun F H σ o => by
  obtain ⟨π, y⟩ := id o
  obtain ⟨ov, h1, rfl⟩ := y.sl i _ h
  exact ⟨x, dx, pa, h1, s.now o.bs⟩
theorem hs_srt {i : Nat} (h : Γ[i]? = some (srt K st)) : HasSr K c Γ i st := fun F H σ o => by
  obtain ⟨π, y⟩ := o
  obtain ⟨ov, h1, v, rfl, x, dx, pa, rfl, h2, h3⟩ := y.sl i _ h
  have key : ∀ q, q ∈ π i → F q = none ∧ ¬ c.ex q := fun q hq => ⟨(y.fr i q hq).1, fun z => y.bs.hx q z (y.fr i q hq).2.2⟩
  rw [h2] at key
  have k1 := key x (by simp)
  have k2 := key dx (by simp)
  have k3 := key pa (by simp)
  exact ⟨x, dx, pa, h1, h3, ⟨k1.1, k2.1, k3.1⟩, k1.2, k2.2, k3.2⟩
theorem hs_srtA {i : Nat} (h : Γ[i]? = some (srtA K x dx pa st)) : HasSr K c Γ i st := fun F H σ o => by
  obtain ⟨π, y⟩ := o
  obtain ⟨ov, h1, v, rfl, rfl, h2, h3⟩ := y.sl i _ h
  have key : ∀ q, q ∈ π i → F q = none ∧ ¬ c.ex q := fun q hq => ⟨(y.fr i q hq).1, fun z => y.bs.hx q z (y.fr i q hq).2.2⟩
  rw [h2] at key
  have k1 := key x (by simp)
  have k2 := key dx (by simp)
  have k3 := key pa (by simp)
  exact ⟨x, dx, pa, h1, h3, ⟨k1.1, k2.1, k3.1⟩, k1.2, k2.2, k3.2⟩
/-- one of a slot's cells is written -/
theorem Ok.writeC {i : Nat} {r r' : Res} {a : Addr} {u : HO} {v : V} (o : Ok K c F H σ Γ) (h : Γ[i]? = some (.res r)) (hv : σ[i]? = some (some v)) (hr : ∀ fp, r.ok F H v fp → a ∈ fp ∧ r'.ok F (upd H a u) v fp) : Ok K c F (upd H a u) σ (Γ.set i (.res r')) := by
  obtain ⟨π, x⟩ := o
  obtain ⟨ov, h1, v', rfl, h3⟩ := x.sl i _ h
  rw [hv] at h1
  cases h1
  obtain ⟨ha, hr'⟩ := hr _ h3
  obtain ⟨f1, f2, f3⟩ := x.fr i a ha
  refine ⟨π, ⟨fun b u q => ?_, x.bs.f0, fun b u q n => ?_, x.bs.nw, x.bs.fx, x.bs.hx, fun b hb => ?_, ?_⟩, by simp [x.len], fun j s hj => ?_, fun j b hb => ?_, x.dj⟩
  · have e : b ≠ a := fun e => by subst e; rw [f1] at q; cases q
    rw [upd_ne e]; exact x.bs.fh b u q
  · have e : b ≠ a := fun e => by subst e; rw [f3] at q; cases q
    rw [upd_ne e]; exact x.bs.h0 b u q n
  · have e : b ≠ a := fun e => by subst e; exact x.bs.hx b hb f3
    rw [upd_ne e]; exact x.bs.xh b hb
  · refine c.rst H _ (fun b hb => ?_) x.bs.rv
    have e : b ≠ a := fun e => by subst e; exact x.bs.hx b hb f3
    rw [upd_ne e]
  · by_cases q : i = j
    · subst q
      have hi : i < Γ.length := (List.getElem?_eq_some_iff.mp h).1
      rw [List.getElem?_set_self hi] at hj
      cases hj
      exact ⟨_, hv, _, rfl, hr'⟩
    · rw [List.getElem?_set_ne q] at hj
      obtain ⟨ov, k1, k2⟩ := x.sl j s hj
      refine ⟨ov, k1, sl_mono (exR F) (fun b hb => ?_) k2⟩
      have e : b ≠ a := fun e => by subst e; exact q (x.dj i j b ha hb)
      rw [upd_ne e]
  · obtain ⟨g1, g2, g3⟩ := x.fr j b hb
    refine ⟨g1, ?_, g3⟩
    by_cases e : b = a
    · subst e; rw [upd_same]; exact fun z => by cases z
    · rw [upd_ne e]; exact g2
/-- the object at a slot becomes another state of it, told by a new heap -/
theorem Ok.swapC {i : Nat} {r r' : Res} {v : V} {fp0 : List Addr} (o : Ok K c F H σ Γ) (h : Γ[i]? = some (.res r)) (hv : σ[i]? = some (some v)) (hr : ∀ fp, r.ok F H v fp → fp = fp0) (ef : Ex F F') (efh : Ex F' H') (nw : ∀ a o, F' a = some o → F a = some o ∨ H a = none)
    (eh : ∀ a o, H a = some o → a ∉ fp0 → H' a = some o) (hn : ∀ a, a ∈ fp0 → H' a ≠ none ∧ F' a = none) (hr' : r'.ok F' H' v fp0) : Ok K c F' H' σ (Γ.set i (.res r')) := by
  obtain ⟨π, x⟩ := o
  obtain ⟨ov, h1, v', rfl, h3⟩ := x.sl i _ h
  rw [hv] at h1
  cases h1
  have e0 := hr _ h3
  have hne : ∀ a, c.ex a → a ∉ fp0 := fun a ha hm => x.bs.hx a ha (x.fr i a (by rw [e0]; exact hm)).2.2
  have hex : ∀ a, c.ex a → H' a = H a := fun a ha => by
    cases e : H a with
    | none => exact absurd e (x.bs.xh a ha)
    | some o => exact eh a o e (hne a ha)
  have hoth : ∀ j a, a ∈ π j → i ≠ j → H' a = H a := fun j a ha hij => by
    have hm : a ∉ fp0 := fun hm => hij (x.dj i j a (by rw [e0]; exact hm) ha)
    cases e : H a with
    | none => exact absurd e (x.fr j a ha).2.1
    | some o => exact eh a o e hm
  refine ⟨π, ⟨efh, exT x.bs.f0 ef, fun b u q n => ?_, fun b u q => ?_, fun b hb => ?_, x.bs.hx, fun b hb => ?_, ?_⟩, by simp [x.len], fun j s hj => ?_, fun j b hb => ?_, x.dj⟩
  · refine eh b u (x.bs.h0 b u q n) fun hm => ?_
    have := (x.fr i b (by rw [e0]; exact hm)).2.2
    rw [q] at this
    cases this
  · rcases nw b u q with z | z
    · exact x.bs.nw b u z
    · refine .inr ?_
      cases e : c.H0 b with
      | none => rfl
      | some w =>
        by_cases n : c.ex b
        · exact absurd z (x.bs.xh b n)
        · rw [x.bs.h0 b w e n] at z; cases z
  · cases e : F' b with
    | none => rfl
    | some w =>
      rcases nw b w e with z | z
      · rw [x.bs.fx b hb] at z; cases z
      · exact absurd z (x.bs.xh b hb)
  · rw [hex b hb]; exact x.bs.xh b hb
  · exact c.rst H _ hex x.bs.rv
  · by_cases q : i = j
    · subst q
      have hi : i < Γ.length := (List.getElem?_eq_some_iff.mp h).1
      rw [List.getElem?_set_self hi] at hj
      cases hj
      exact ⟨_, hv, _, rfl, by rw [e0]; exact hr'⟩
    · rw [List.getElem?_set_ne q] at hj
      obtain ⟨ov, k1, k2⟩ := x.sl j s hj
      exact ⟨ov, k1, sl_mono ef (fun b hb => hoth j b hb q) k2⟩
  · obtain ⟨g1, g2, g3⟩ := x.fr j b hb
    by_cases q : i = j
    · subst q
      obtain ⟨n1, n2⟩ := hn b (by rw [← e0]; exact hb)
      exact ⟨n2, n1, g3⟩
    · refine ⟨?_, by rw [hoth j b hb q]; exact g2, g3⟩
      cases e : F' b with
      | none => rfl
      | some w =>
        rcases nw b w e with z | z
        · rw [g1] at z; cases z
        · exact absurd z g2
end
end GA
namespace GA
open PySem PySem.Spec PyProof.Rows L2
/-! the object's methods -/
/-- a method that reads alone -/
def spRd (K : Nat → Addr) (f : Srt → WP D) : Sp := fun vs H Q E => ∃ F x dx pa st, vs = [.ref x] ∧ SrAt K F H x dx pa st ∧ (F x = none ∧ F dx = none ∧ F pa = none) ∧ Ex F H ∧
  (f st).run (fun d => ∀ v F' H', Ex H H' → Ex F F' → Ex F' H' → (∀ a o, F' a = some o → F a = some o ∨ H a = none) → Rp K F' v d → Q v H') (fun k => ∀ H', Ex H H' → E (.ref (K k)) none H')
structure SrEnd (K : Nat → Addr) (F0 H0 : Hp) (x dx pa : Addr) (F' H' : Hp) (st' : Srt) : Prop where
  at_ : SrAt K F' H' x dx pa st'
  f : F' x = none ∧ F' dx = none ∧ F' pa = none
  h : ∀ q o, H0 q = some o → q ≠ x → q ≠ dx → q ≠ pa → H' q = some o
  f0 : Ex F0 F'
  fh : Ex F' H'
  nw : ∀ q o, F' q = some o → F0 q = some o ∨ H0 q = none
/-- a method that changes it; an error leaves all as it was -/
def spM (K : Nat → Addr) (n : Nat) (f : Srt → List D → WP (D × Srt)) : Sp := fun vs H Q E => ∃ F ds x dx pa st vs', vs = .ref x :: vs' ∧ SrAt K F H x dx pa st ∧ (F x = none ∧ F dx = none ∧ F pa = none) ∧ Ex F H ∧ RpAll K F vs' ds ∧ ds.length = n ∧
  (f st ds).run (fun p => ∀ v F' H', SrEnd K F H x dx pa F' H' p.2 → Rp K F' v p.1 → Q v H') (fun k => ∀ H', Ex H H' → E (.ref (K k)) none H')
def spNew (K : Nat → Addr) : Sp := fun vs H Q _ => ∃ x dx, vs = [.ref x] ∧ H x = some (.ins (K 6) dx []) ∧ H dx = some (.own x) ∧ x ≠ dx ∧ ∀ H' la pa, (∀ q o, H q = some o → q ≠ x → H' q = some o) → H la = none → H pa = none → la ≠ pa → H' la = some (.lst []) → H' pa = some (.lst []) → H' x = some (.ins (K 6) dx [("labels", .ref la), ("past", .ref pa)]) → Q .non H'
/-- the body of a method, ahead of its changes -/
def tQ (K : Nat → Addr) (c : C) (x dx pa : Addr) (E : XK) (Γ : List Sl) (m : WP (D × Srt)) : TS := fun D σ H => ∃ F, Ok K c F H σ Γ ∧ m.run (fun p => ∀ v F' H', SrEnd K c.F0 c.H0 x dx pa F' H' p.2 → Rp K F' v p.1 → D.rt v H') (eK K E c)
def tQn (K : Nat → Addr) (c : C) (x dx pa : Addr) (E : XK) (Γ : List Sl) (m : WP Srt) : TS := fun D σ H => ∃ F, Ok K c F H σ Γ ∧ m.run (fun p => ∀ σ' F' H', SrEnd K c.F0 c.H0 x dx pa F' H' p → D.nx σ' H') (eK K E c)
/-- .. and behind them -/
def tP (K : Nat → Addr) (c : C) (x dx pa : Addr) (E : XK) (Γ : List Sl) (m : WP (D × Srt)) : TS := fun D σ H => ∃ F, Ok K c F H σ Γ ∧ m.run (fun p => ∀ v σ' F' H' Γ', Ok K c F' H' σ' Γ' → Γ'[0]? = some (srtA K x dx pa p.2) → Rp K F' v p.1 → D.rt v H') (eK K E c)
def tPn (K : Nat → Addr) (c : C) (x dx pa : Addr) (E : XK) (Γ : List Sl) (m : WP Srt) : TS := fun D σ H => ∃ F, Ok K c F H σ Γ ∧ m.run (fun p => ∀ σ' F' H' Γ', Ok K c F' H' σ' Γ' → Γ'[0]? = some (srtA K x dx pa p) → D.nx σ' H') (eK K E c)
/-- the context in which the object is one's own -/
def c2 (c : C) (x dx pa : Addr) : C := ⟨c.F0, fun q => if q = x ∨ q = dx ∨ q = pa then none else c.H0 q, c.ex, c.rinv, c.rst⟩
section
variable {P : Program} {w : World} {W : PySem.W.Frag} {mg : Str → Option Value} {base : Heap} {K : Nat → Addr}
theorem c0_sr {F H : Hp} {x dx pa : Addr} {st : Srt} (h : SrAt K F H x dx pa st) (f : F x = none ∧ F dx = none ∧ F pa = none) : IsSr K (c0 F H) x dx pa st := ⟨h, f, ⟨id, id, id⟩, fun _ => id⟩
theorem fn_Rd {x qual : Str} {pa : Arguments} {bd : List Stmt} {sc : Scope} {f : Addr} {fd : FuncData} {N ps : List Str} {k : Nat} {g : Srt → WP D} (F : FunD W x qual pa bd sc [] [] f fd) (S : FnScope N ps sc) (hp : ps.length = 1)
    (hbody : ∀ (cdv : Value) (A : Around) (outer : List Env) (s : Shared) (H : Hp) (E : XK) (c : C) (a dx pa : Addr) (st : Srt), IsSr K c a dx pa st → Room k (A.deeper (envOfC qual sc s.heap.objs.size f cdv)) →
      PSs (cxOf (CX P w) P w W mg base N qual sc f cdv A outer s H E) bd (tE K c E (slotsD N a []) (g st))) : FnOk P w W mg base (CX P w) (k + 1) f fd ps (spRd K g) := by
  refine F.ok S (fun vs H Q E h => ?_) (fun cdv A outer s H vs Q E hr h => ?_)
  · obtain ⟨F, x, dx, pa, st, rfl, _⟩ := h
    rw [hp] <;> rfl
  · obtain ⟨F0, a, dx, pa, st, rfl, hs, hf, e, r⟩ := h
    have hn : ([] : List D).length + 1 ≤ N.length := by
      have := congrArg List.length S.pre
      rw [List.length_take, hp] at this
      simp
      omega
    refine ⟨_, hbody cdv A outer s H E (c0 F0 H) a dx pa st (c0_sr hs hf) hr, F0, startD_ok (c0_bs e) .nil hn, (g st).mono _ _ _ _ (fun d p v F' H' b ef rp => ?_) (fun k p H' hp => ?_) r⟩
    · exact p v F' H' (fun a o h => b.h0 a o h fun z => z) b.f0 b.fh (fun a o h => b.nw a o h) rp
    · exact p H' fun a o h => hp.1 a o h fun z => z
theorem fn_M {x qual : Str} {pa : Arguments} {bd : List Stmt} {sc : Scope} {f : Addr} {fd : FuncData} {N ps : List Str} {k n : Nat} {g : Srt → List D → WP (D × Srt)} (F : FunD W x qual pa bd sc [] [] f fd) (S : FnScope N ps sc) (hp : ps.length = n + 1)
    (hbody : ∀ (cdv : Value) (A : Around) (outer : List Env) (s : Shared) (H : Hp) (E : XK) (c : C) (a dx pa : Addr) (st : Srt) (ds : List D), IsSr K c a dx pa st → Room k (A.deeper (envOfC qual sc s.heap.objs.size f cdv)) → ds.length = n →
      PSs (cxOf (CX P w) P w W mg base N qual sc f cdv A outer s H E) bd (tQ K c a dx pa E (slotsD N a ds) (g st ds))) : FnOk P w W mg base (CX P w) (k + 1) f fd ps (spM K n g) := by
  refine F.ok S (fun vs H Q E h => ?_) (fun cdv A outer s H vs Q E hr h => ?_)
  · obtain ⟨F, ds, x, dx, pa, st, vs', rfl, _, _, _, t, e, _⟩ := h
    rw [List.length_cons, dps_len t, e, hp]
  · obtain ⟨F0, ds, a, dx, pa, st, vs', rfl, hs, hf, e, t, hl, r⟩ := h
    have hn : ds.length + 1 ≤ N.length := by
      have := congrArg List.length S.pre
      rw [List.length_take] at this
      omega
    refine ⟨_, hbody cdv A outer s H E (c0 F0 H) a dx pa st ds (c0_sr hs hf) hr hl, F0, startD_ok (c0_bs e) t hn, (g st ds).mono _ _ _ _ (fun d p v F' H' b rp => p v F' H' b rp) (fun k p H' hp => ?_) r⟩
    exact p H' fun a o h => hp.1 a o h fun z => z
theorem fn_Mn {x qual : Str} {pa : Arguments} {bd : List Stmt} {sc : Scope} {f : Addr} {fd : FuncData} {N ps : List Str} {k : Nat} {g : Srt → WP Srt} (F : FunD W x qual pa bd sc [] [] f fd) (S : FnScope N ps sc) (hp : ps.length = 1)
    (hbody : ∀ (cdv : Value) (A : Around) (outer : List Env) (s : Shared) (H : Hp) (E : XK) (c : C) (a dx pa : Addr) (st : Srt), IsSr K c a dx pa st → Room k (A.deeper (envOfC qual sc s.heap.objs.size f cdv)) →
      PSs (cxOf (CX P w) P w W mg base N qual sc f cdv A outer s H E) bd (tQn K c a dx pa E (slotsD N a []) (g st))) : FnOk P w W mg base (CX P w) (k + 1) f fd ps (spM K 0 fun st _ => (g st).bind fun st' => .ret (.none, st')) := by
  refine F.ok S (fun vs H Q E h => ?_) (fun cdv A outer s H vs Q E hr h => ?_)
  · obtain ⟨F, ds, x, dx, pa, st, vs', rfl, _, _, _, t, e, _⟩ := h
    rw [List.length_cons, dps_len t, e, hp]
  · obtain ⟨F0, ds, a, dx, pa, st, vs', rfl, hs, hf, e, t, hl, r⟩ := h
    have hd : ds = [] := List.length_eq_zero_iff.mp hl
    subst hd
    have hn : ([] : List D).length + 1 ≤ N.length := by
      have := congrArg List.length S.pre
      rw [List.length_take, hp] at this
      simp
      omega
    refine ⟨_, hbody cdv A outer s H E (c0 F0 H) a dx pa st (c0_sr hs hf) hr, F0, startD_ok (c0_bs e) t hn, (g st).mono _ _ _ _ (fun d p σ' F' H' b => p .non F' H' b .non) (fun k p H' hp => ?_) r⟩
    exact p H' fun a o h => hp.1 a o h fun z => z
end
section
variable {X : Cx} {K : Nat → Addr} {c : C} {E : XK} {Γ Γ' : List Sl} {F F' H H' : Hp} {σ : L2.St} {pos : Pos} {e a b t : Expr} {es : List Expr} {ms : WP (List D)} {m ma mb : WP D} {q : WP Bool} {st : Srt} {stm : Stmt} {A rest : List Stmt} {x dx pa : Addr} {α : Type}
/-- s.labels -/
theorem e_lab (i : Nat) {s : Str} {p : Pos} (hs : HasSr K c Γ i st) (cl : Cls X.K (K 6)) (na : NoAttr X.K (K 6) "labels") (hN : X.N[i]? = some s) (hv : Vis X.env.scope s) (hd : (s == ("__debug__" : Str)) = false := by decide) (hcd : (s == ("__classdict__" : Str)) = false := by decide)
    (hb : attributeBase (.Name s p) "labels" X.env (eval (.Name s p) X.env) = eval (.Name s p) X.env := by rfl) : PE X (.Attribute (.Name s p) "labels" pos) (tW K c E Γ (.ret (.list st.labels))) :=
  pe_weak (pe_fld (pe_var hN hv hd hcd) hb) fun σ H Q ⟨F, o, r⟩ => by
    obtain ⟨x, dx, pa, h1, ⟨n, lv, pvs, k1, k2, k3, k4, k5⟩, _, _⟩ := hs F H σ o
    exact ⟨_, h1, x, K 6, dx, _, lv, rfl, k1, cl, na, rfl, r lv F H o .refl k4⟩
/-- s.m(), m reads alone -/
theorem e_rd0 (i : Nat) {s mt : Str} {p apos : Pos} {CX : CXT} {k : Nat} {f : Addr} {fd : FuncData} {ps : List Str} {g : Srt → WP D} {pl : Sem Bool} (hs : HasSr K c Γ i st) (cl : Cls X.K (K 6)) (hm : Meth X.K (K 6) mt f) (G : FnOk X.prog X.w X.K X.mg X.base CX k f fd ps (spRd K g)) (hr : Room k X.A) (hb : Binds X.K fd ps []) (hx : Passes CX X E)
    (hN : X.N[i]? = some s) (hv : Vis X.env.scope s) (hne : (mt == ("labels" : Str)) = false ∧ (mt == ("past" : Str)) = false := by decide) (hd : (s == ("__debug__" : Str)) = false := by decide) (hcd : (s == ("__classdict__" : Str)) = false := by decide)
    (ht : eval (.Call (.Attribute (.Name s p) mt apos) [] [] pos) X.env = (do
      let ov ← eval (.Name s p) X.env
      standAt apos.atName
      let (f, first) ← holding [ov] (getMethod ov mt pl)
      callWith pos f first (backTo pos (starEach [] X.env)) (backToKw pos (keywordEach [] X.env))) := by rfl) :
    PE X (.Call (.Attribute (.Name s p) mt apos) [] [] pos) (tW K c E Γ (g st)) :=
  pe_weak (pe_meth0 (pe_var hN hv hd hcd) cl hm G hr hb .nil hx ht) fun σ H Q ⟨F, o, r⟩ => by
    obtain ⟨x, dx, pa, h1, n⟩ := hs F H σ o
    obtain ⟨nn, lv, pvs, k1, k2, k3, k4, k5⟩ := n.at_
    have hl : List.lookup mt [(("labels" : Str), lv), ("past", .ref pa)] = none := by
      simp only [List.lookup_cons, hne.1, hne.2, List.lookup_nil]
    refine ⟨_, h1, x, dx, _, rfl, k1, hl, F, x, dx, pa, st, rfl, n.at_, n.f, o.bs.fh, (g st).mono _ _ _ _ (fun d p v F' H' eh ef efh nw rp => ?_) (fun k p H' eh => ?_) r⟩
    · exact p v F' H' (o.grow eh ef efh nw) ⟨ef, fun a u h _ => eh a u h, fun a u h _ => nw a u h⟩ rp
    · exact p H' (o.grow eh (exR F) (exT o.bs.fh eh) fun a u h => .inl h).pres
theorem s_ifQ {k : Nat} {f : WP (D × Srt)} (ht : PT X t (tT K c E Γ q)) (ha : PSs X A (tE K c E Γ (.lift (.err k)))) (hr : PSs X rest (tQ K c x dx pa E Γ f)) : PSs X (.If t A [] pos :: rest) (tQ K c x dx pa E Γ (q.bind fun b => if b = true then .lift (.err k) else f)) :=
  pss_weak (pss_cons (ps_if ht ha pss_nil) hr) fun D σ H ⟨F, o, r⟩ => ⟨F, o, q.mono _ _ _ _ (fun b p F1 H1 o1 g1 => by
    cases b with
    | true => exact ⟨F1, o1, p⟩
    | false => exact ⟨F1, o1, p⟩) (fun _ z => z) r⟩
theorem s_ifQn {k : Nat} {f : WP Srt} (ht : PT X t (tT K c E Γ q)) (ha : PSs X A (tE K c E Γ (.lift (.err k)))) (hr : PSs X rest (tQn K c x dx pa E Γ f)) : PSs X (.If t A [] pos :: rest) (tQn K c x dx pa E Γ (q.bind fun b => if b = true then .lift (.err k) else f)) :=
  pss_weak (pss_cons (ps_if ht ha pss_nil) hr) fun D σ H ⟨F, o, r⟩ => ⟨F, o, q.mono _ _ _ _ (fun b p F1 H1 o1 g1 => by
    cases b with
    | true => exact ⟨F1, o1, p⟩
    | false => exact ⟨F1, o1, p⟩) (fun _ z => z) r⟩
/-- from the object as it is known to the object as one's own -/
theorem Ok.toOwn (s : IsSr K c x dx pa st) (hi : Γ[0]? = some (.val (.ref x))) (o : Ok K c F H σ Γ) : Ok K (c2 c x dx pa) F H σ (Γ.set 0 (srtA K x dx pa st)) := by
  have n := s.now o.bs
  have sm := s.at_.some
  have smH := n.at_.some
  obtain ⟨π, y⟩ := o
  have nin : ∀ j q, q ∈ π j → ¬ (q = x ∨ q = dx ∨ q = pa) := fun j q hq z => by
    have := (y.fr j q hq).2.2
    rcases z with rfl | rfl | rfl
    · exact sm.1 this
    · exact sm.2.1 this
    · exact sm.2.2 this
  have mem3 : ∀ q, q ∈ [x, dx, pa] → q = x ∨ q = dx ∨ q = pa := fun q hq => by simpa using hq
  refine ⟨fun j => if j = 0 then [x, dx, pa] else π j, ⟨y.bs.fh, y.bs.f0, fun b u q nx => ?_, fun b u q => ?_, y.bs.fx, fun b hb => ?_, y.bs.xh, y.bs.rv⟩, by simp [y.len], fun j s' hj => ?_, fun j b hb => ?_, fun j k b k1 k2 => ?_⟩
  · show H b = some u
    have q' : (if b = x ∨ b = dx ∨ b = pa then none else c.H0 b) = some u := q
    split at q'
    · cases q'
    · exact y.bs.h0 b u q' nx
  · show c.F0 b = some u ∨ (if b = x ∨ b = dx ∨ b = pa then none else c.H0 b) = none
    rcases y.bs.nw b u q with z | z
    · exact .inl z
    · refine .inr ?_
      split
      · rfl
      · exact z
  · show (if b = x ∨ b = dx ∨ b = pa then none else c.H0 b) ≠ none
    have : ¬ (b = x ∨ b = dx ∨ b = pa) := fun z => by
      rcases z with rfl | rfl | rfl
      · exact s.nx.1 hb
      · exact s.nx.2.1 hb
      · exact s.nx.2.2 hb
    rw [if_neg this]
    exact y.bs.hx b hb
  · by_cases q : 0 = j
    · subst q
      have hl : 0 < Γ.length := (List.getElem?_eq_some_iff.mp hi).1
      rw [List.getElem?_set_self hl] at hj
      cases hj
      obtain ⟨ov, h1, rfl⟩ := y.sl 0 _ hi
      exact ⟨_, h1, _, rfl, rfl, rfl, n.at_⟩
    · rw [List.getElem?_set_ne q] at hj
      obtain ⟨ov, k1, k2⟩ := y.sl j s' hj
      refine ⟨ov, k1, ?_⟩
      rw [if_neg fun z => q z.symm]
      exact k2
  · by_cases q : j = 0
    · rw [if_pos q] at hb
      have hc := mem3 b hb
      refine ⟨?_, ?_, ?_⟩
      · rcases hc with rfl | rfl | rfl
        · exact n.f.1
        · exact n.f.2.1
        · exact n.f.2.2
      · rcases hc with rfl | rfl | rfl
        · exact smH.1
        · exact smH.2.1
        · exact smH.2.2
      · show (if b = x ∨ b = dx ∨ b = pa then none else c.H0 b) = none
        rw [if_pos hc]
    · rw [if_neg q] at hb
      obtain ⟨g1, g2, g3⟩ := y.fr j b hb
      refine ⟨g1, g2, ?_⟩
      show (if b = x ∨ b = dx ∨ b = pa then none else c.H0 b) = none
      split
      · rfl
      · exact g3
  · by_cases q : j = 0
    · rw [if_pos q] at k1
      by_cases q2 : k = 0
      · rw [q, q2]
      · rw [if_neg q2] at k2; exact (nin k b k2 (mem3 b k1)).elim
    · rw [if_neg q] at k1
      by_cases q2 : k = 0
      · rw [if_pos q2] at k2; exact (nin j b k1 (mem3 b k2)).elim
      · rw [if_neg q2] at k2; exact y.dj j k b k1 k2
theorem Ok.srEnd (o : Ok K (c2 c x dx pa) F H σ Γ) (hi : Γ[0]? = some (srtA K x dx pa st)) (hx : ∀ q, ¬ c.ex q) : SrEnd K c.F0 c.H0 x dx pa F H st := by
  obtain ⟨π, y⟩ := o
  obtain ⟨ov, h1, v, rfl, rfl, h2, h3⟩ := y.sl 0 _ hi
  have key : ∀ q, q ∈ π 0 → F q = none := fun q hq => (y.fr 0 q hq).1
  rw [h2] at key
  refine ⟨h3, ⟨key x (by simp), key dx (by simp), key pa (by simp)⟩, fun q o h n1 n2 n3 => ?_, y.bs.f0, y.bs.fh, fun q o h => ?_⟩
  · refine y.bs.h0 q o ?_ (hx q)
    show (if q = x ∨ q = dx ∨ q = pa then none else c.H0 q) = some o
    rw [if_neg (by rintro (z | z | z) <;> contradiction)]
    exact h
  · rcases y.bs.nw q o h with z | z
    · exact .inl z
    · have z' : (if q = x ∨ q = dx ∨ q = pa then none else c.H0 q) = none := z
      split at z'
      · rename_i hq
        rcases hq with rfl | rfl | rfl
        · rw [key q (by simp)] at h; cases h
        · rw [key q (by simp)] at h; cases h
        · rw [key q (by simp)] at h; cases h
      · exact .inr z'
theorem s_sw {f : WP (D × Srt)} (s : IsSr K c x dx pa st) (hi : Γ[0]? = some (.val (.ref x))) (h : PSs X rest (tP K (c2 c x dx pa) x dx pa E0 (Γ.set 0 (srtA K x dx pa st)) f)) : PSs X rest (tQ K c x dx pa E Γ f.noE) :=
  pss_weak h fun D σ H ⟨F, o, r⟩ => ⟨F, o.toOwn s hi, f.mono _ _ _ _ (fun p q v σ' F' H' Γ' o' hi' rp => q v F' H' (o'.srEnd hi' s.ex0) rp) (fun _ z => z.elim) r⟩
theorem s_swn {f : WP Srt} (s : IsSr K c x dx pa st) (hi : Γ[0]? = some (.val (.ref x))) (h : PSs X rest (tPn K (c2 c x dx pa) x dx pa E0 (Γ.set 0 (srtA K x dx pa st)) f)) : PSs X rest (tQn K c x dx pa E Γ f.noE) :=
  pss_weak h fun D σ H ⟨F, o, r⟩ => ⟨F, o.toOwn s hi, f.mono _ _ _ _ (fun p q σ' F' H' Γ' o' hi' => q σ' F' H' (o'.srEnd hi' s.ex0)) (fun _ z => z.elim) r⟩
theorem s_XP {m : WP α} {G : α → List Sl} {f : α → WP (D × Srt)} (h1 : PS X stm (tX K c E Γ m G)) (h2 : ∀ a, PSs X rest (tP K c x dx pa E (G a) (f a))) : PSs X (stm :: rest) (tP K c x dx pa E Γ (m.bind f)) :=
  pss_weak (pss_cons h1 (pss_ex h2)) fun D σ H ⟨F, o, r⟩ => ⟨F, o, m.mono _ _ _ _ (fun a p σ' F' H' o' ef => ⟨a, F', o', p⟩) (fun _ z => z) r⟩
theorem s_retP (h : PE X e (tW K c E Γ m)) (hi : Γ[0]? = some (srtA K x dx pa st)) : PSs X (.Return (some e) pos :: rest) (tP K c x dx pa E Γ (m.bind fun d => .ret (d, st))) :=
  pss_weak (pss_ret h) fun D σ H ⟨F, o, r⟩ => ⟨F, o, m.mono _ _ _ _ (fun d p v F' H' o' g x => p v σ F' H' Γ o' hi x) (fun _ z => z) r⟩
theorem s_endP {m : WP α} {G : α → List Sl} {g : α → Srt} (h1 : PS X stm (tX K c E Γ m G)) (hi : ∀ a, (G a)[0]? = some (srtA K x dx pa (g a))) : PSs X [stm] (tPn K c x dx pa E Γ (m.bind fun a => .ret (g a))) :=
  pss_weak (pss_cons h1 pss_nil) fun D σ H ⟨F, o, r⟩ => ⟨F, o, m.mono _ _ _ _ (fun a p σ' F' H' o' ef => p σ' F' H' (G a) o' (hi a)) (fun _ z => z) r⟩
end
end GA
namespace GA
open PySem PySem.Spec PyProof.Rows L2
section
variable {X : Cx} {K : Nat → Addr} {c : C} {E : XK} {Γ Γ' : List Sl} {F F' H H' : Hp} {σ : L2.St} {pos : Pos} {e a b t : Expr} {m : WP D} {st : Srt} {x dx pa : Addr}
theorem Ok.srtA_at {i : Nat} (o : Ok K c F H σ Γ) (h : Γ[i]? = some (srtA K x dx pa st)) : σ[i]? = some (some (.ref x)) ∧ SrAt K F H x dx pa st := by
  obtain ⟨π, y⟩ := o
  obtain ⟨ov, h1, v, rfl, rfl, h2, h3⟩ := y.sl i _ h
  exact ⟨h1, h3⟩
/-- s.past.append(e) -/
theorem s_pastApp (i : Nat) {s : Str} {p p2 apos cpos : Pos} (hi : Γ[i]? = some (srtA K x dx pa st)) (cl : Cls X.K (K 6)) (na : NoAttr X.K (K 6) "past") (hN : X.N[i]? = some s) (hv : Vis X.env.scope s) (he : PE X e (tW K c E Γ m)) (hd : (s == ("__debug__" : Str)) = false := by decide) (hcd : (s == ("__classdict__" : Str)) = false := by decide)
    (hb : attributeBase (.Name s p) "past" X.env (eval (.Name s p) X.env) = eval (.Name s p) X.env := by rfl)
    (hbase : attributeBase (.Attribute (.Name s p) "past" p2) "append" X.env (eval (.Attribute (.Name s p) "past" p2) X.env) = eval (.Attribute (.Name s p) "past" p2) X.env := by rfl)
    (hfew : ((backTo cpos (starEach (e :: []) X.env)).all (fun x => !x.1) && (backToKw cpos (keywordEach [] X.env)).all (fun x => x.1.isSome)
      && decide ((e :: []).length + ([] : List Keyword).length + (if ([] : List Keyword).isEmpty then 0 else 1) < 30)) = true := by rfl)
    (hline : (apos.endLine == cpos.line) = true := by rfl) (hs : starEach (e :: []) X.env = (false, eval e X.env) :: starEach [] X.env := by rfl) (hplain : (backTo cpos (starEach [] X.env)).any (·.1) = false := by rfl)
    (hsw : swapsWith (.Call (.Attribute (.Attribute (.Name s p) "past" p2) "append" apos) [e] [] cpos) none pos.line X.env = pure false := by rfl) :
    PS X (.Expr (.Call (.Attribute (.Attribute (.Name s p) "past" p2) "append" apos) [e] [] cpos) pos) (tX K c E Γ (m.bind fun d => .opt (dPush st.past d)) fun ps => Γ.set i (srtA K x dx pa ⟨st.labels, ps⟩)) :=
  ps_weak (ps_expr (pe_bm PySem.F.plainAttrs_list PySem.F.slot_list_append PySem.F.type_list_append mt_append (pe_fld (pe_var hN hv hd hcd) hb) (pa_cons he pa_nil hs) hbase hfew hline hs hplain) hsw) fun D σ H ⟨F, o, r⟩ => by
    obtain ⟨h1, n, lv, pvs, k1, k2, k3, k4, k5⟩ := o.srtA_at hi
    refine ⟨_, h1, x, K 6, dx, _, .ref pa, rfl, k1, cl, na, rfl, .inl ⟨rfl, pvs, .inl (.inl k3)⟩, F, o, m.mono _ _ _ _ (fun d p v F1 H1 o1 g1 x1 => ?_) (fun _ z => z) r⟩
    obtain ⟨es, hes, p⟩ := WP.opt_run p
    unfold dPush at hes
    split at hes <;> cases hes
    rename_i hl
    obtain ⟨_, _, lv1, pvs1, j1, j2, j3, j4, j5⟩ := o1.srtA_at hi
    refine ⟨pa, pvs1, v, rfl, rfl, j3, by rw [dps_len j5]; exact lim_lt hl, p _ F1 _ (o1.writeC hi h1 fun fp ⟨_, e2, _⟩ => ⟨by rw [e2]; simp, rfl, e2, n, lv1, pvs1 ++ [v], ?_, ?_, upd_same, j4, dps_append j5 (.cons x1 .nil)⟩) g1.f⟩
    · rw [upd_ne n.2.1]; exact j1
    · rw [upd_ne n.2.2]; exact j2
/-- s.labels = e -/
theorem s_setLab (i : Nat) {s : Str} {p pos' : Pos} (hi : Γ[i]? = some (srtA K x dx pa st)) (cl : Cls X.K (K 6)) (na : NoAttr X.K (K 6) "labels") (hN : X.N[i]? = some s) (hv : Vis X.env.scope s) (he : PE X e (tW K c E Γ m)) (hs : swapsWith e (some (.Attribute (.Name s p) "labels" pos')) pos.line X.env = pure false := by rfl) (hd : (s == ("__debug__" : Str)) = false := by decide) (hcd : (s == ("__classdict__" : Str)) = false := by decide) :
    PS X (.Assign [.Attribute (.Name s p) "labels" pos'] e pos) (tX K c E Γ (m.bind fun d => .opt (dList d)) fun ls => Γ.set i (srtA K x dx pa ⟨ls, st.past⟩)) :=
  ps_weak (ps_fld (pe_var hN hv hd hcd) he hs) fun D σ H ⟨F, o, r⟩ => by
    obtain ⟨h1, _⟩ := o.srtA_at hi
    refine ⟨F, o, m.mono _ _ _ _ (fun d p v F1 H1 o1 g1 x1 => ?_) (fun _ z => z) r⟩
    obtain ⟨ls, hls, p⟩ := WP.opt_run p
    cases dList_some hls
    obtain ⟨_, n, lv1, pvs1, j1, j2, j3, j4, j5⟩ := o1.srtA_at hi
    refine ⟨_, h1, x, K 6, dx, _, rfl, j1, cl, na, by simp, p _ F1 _ (o1.writeC hi h1 fun fp ⟨_, e2, _⟩ => ⟨by rw [e2]; simp, rfl, e2, n, v, pvs1, upd_same, ?_, ?_, x1, j5⟩) g1.f⟩
    · rw [upd_ne (Ne.symm n.1)]; exact j2
    · rw [upd_ne (Ne.symm n.2.1)]; exact j3
/-- s.labels = s.past.pop() -/
def dPop : List D → Option (List D × List D)
  | [] => none
  | d :: ds => match (d :: ds).getLast? with
    | some (.list ls) => some (ls, (d :: ds).dropLast)
    | _ => none
theorem dps_dropLast : ∀ {vs : List V} {ds : List D}, RpAll K F vs ds → RpAll K F vs.dropLast ds.dropLast
  | _, _, .nil => .nil
  | _, _, .cons h .nil => .nil
  | _, _, .cons h (.cons h2 t) => .cons h (dps_dropLast (.cons h2 t))
theorem s_setPop (i : Nat) {s : Str} {p pos' q1 q2 apos cpos : Pos} (hi : Γ[i]? = some (srtA K x dx pa st)) (cl : Cls X.K (K 6)) (na : NoAttr X.K (K 6) "labels") (na2 : NoAttr X.K (K 6) "past") (hN : X.N[i]? = some s) (hv : Vis X.env.scope s) (hd : (s == ("__debug__" : Str)) = false := by decide) (hcd : (s == ("__classdict__" : Str)) = false := by decide)
    (hb : attributeBase (.Name s q1) "past" X.env (eval (.Name s q1) X.env) = eval (.Name s q1) X.env := by rfl)
    (hbase : attributeBase (.Attribute (.Name s q1) "past" q2) "pop" X.env (eval (.Attribute (.Name s q1) "past" q2) X.env) = eval (.Attribute (.Name s q1) "past" q2) X.env := by rfl) (hline : (apos.endLine == cpos.line) = true := by rfl)
    (hs : swapsWith (.Call (.Attribute (.Attribute (.Name s q1) "past" q2) "pop" apos) [] [] cpos) (some (.Attribute (.Name s p) "labels" pos')) pos.line X.env = pure false := by rfl) :
    PS X (.Assign [.Attribute (.Name s p) "labels" pos'] (.Call (.Attribute (.Attribute (.Name s q1) "past" q2) "pop" apos) [] [] cpos) pos) (tX K c E Γ (.opt (dPop st.past)) fun r => Γ.set i (srtA K x dx pa ⟨r.1, r.2⟩)) :=
  ps_weak (ps_fld (pe_var hN hv hd hcd) (pe_bm0 PySem.F.plainAttrs_list PySem.F.slot_list_pop PySem.F.type_list_pop mt_pop (pe_fld (pe_var hN hv hd hcd) hb) hbase hline) hs) fun D σ H ⟨F, o, r⟩ => by
    obtain ⟨h1, n, lv, pvs, k1, k2, k3, k4, k5⟩ := o.srtA_at hi
    obtain ⟨z, hz, r⟩ := WP.opt_run r
    have hlen := dps_len k5
    unfold dPop at hz
    split at hz
    · cases hz
    · rename_i d ds e0
      split at hz
      · rename_i ls e1
        cases hz
        have e2 : st.past[st.past.length - 1]? = some (.list ls) := by
          rw [e0, ← List.getLast?_eq_getElem?]
          exact e1
        obtain ⟨y, hy, ry⟩ := dps_at k5 e2
        refine ⟨_, h1, x, K 6, dx, _, .ref pa, rfl, k1, cl, na2, rfl, .inl ⟨rfl, pvs, .inl (.inl k3)⟩, pa, pvs, y, rfl, rfl, k3, by rw [hlen]; exact hy, _, h1, x, K 6, dx, [("labels", lv), ("past", .ref pa)], rfl, ?_, cl, na, by simp, ?_⟩
        · rw [upd_ne n.2.1]; exact k1
        · have o1 := o.writeC (a := pa) (u := .lst pvs.dropLast) (r' := ⟨fun F H v fp => v = .ref x ∧ fp = [x, dx, pa] ∧ SrAt K F H x dx pa ⟨st.labels, (d :: ds).dropLast⟩, (fun F F' H H' v fp e h ⟨e1, e2, h1⟩ => ⟨e1, e2, h1.mono e (h _ (by rw [e2]; simp)) (h _ (by rw [e2]; simp)) (h _ (by rw [e2]; simp))⟩)⟩) hi h1 fun fp ⟨_, e2, _⟩ => ⟨by rw [e2]; simp, rfl, e2, n, lv, _, by rw [upd_ne n.2.1]; exact k1, by rw [upd_ne n.2.2]; exact k2, upd_same, k4, by rw [← e0]; exact dps_dropLast k5⟩
          have hl : i < Γ.length := (List.getElem?_eq_some_iff.mp hi).1
          have o2 := o1.writeC (a := x) (u := .ins (K 6) dx [("labels", y), ("past", .ref pa)]) (r' := ⟨fun F H v fp => v = .ref x ∧ fp = [x, dx, pa] ∧ SrAt K F H x dx pa ⟨ls, (d :: ds).dropLast⟩, (fun F F' H H' v fp e h ⟨e1, e2, h1⟩ => ⟨e1, e2, h1.mono e (h _ (by rw [e2]; simp)) (h _ (by rw [e2]; simp)) (h _ (by rw [e2]; simp))⟩)⟩) (List.getElem?_set_self hl) h1 fun fp ⟨_, e2, _⟩ => ⟨by rw [e2]; simp, rfl, e2, n, y, _, upd_same, by rw [upd_ne (Ne.symm n.1), upd_ne n.2.2]; exact k2, by rw [upd_ne (Ne.symm n.2.1)]; exact upd_same, ry, by rw [← e0]; exact dps_dropLast k5⟩
          rw [List.set_set] at o2
          exact r _ F _ o2 (exR F)
      · cases hz
end
end GA
namespace GA
open PySem PySem.Spec PyProof.Rows L2
/-! a new object -/
def tInit (K : Nat → Addr) : TS := fun D σ H => ∃ x dx, σ[0]? = some (some (.ref x)) ∧ H x = some (.ins (K 6) dx []) ∧ H dx = some (.own x) ∧ x ≠ dx ∧ ∀ H' la pa, (∀ q o, H q = some o → q ≠ x → H' q = some o) → H la = none → H pa = none → la ≠ pa → H' la = some (.lst []) → H' pa = some (.lst []) → H' x = some (.ins (K 6) dx [("labels", .ref la), ("past", .ref pa)]) → ∀ σ', D.nx σ' H'
section
variable {P : Program} {w : World} {W : PySem.W.Frag} {mg : Str → Option Value} {base : Heap} {K : Nat → Addr}
theorem fn_new {x qual : Str} {pa : Arguments} {bd : List Stmt} {sc : Scope} {f : Addr} {fd : FuncData} {N ps : List Str} {k : Nat} (F : FunD W x qual pa bd sc [] [] f fd) (S : FnScope N ps sc) (hp : ps.length = 1)
    (hbody : ∀ (cdv : Value) (A : Around) (outer : List Env) (s : Shared) (H : Hp) (E : XK), PSs (cxOf CX0 P w W mg base N qual sc f cdv A outer s H E) bd (tInit K)) : FnOk P w W mg base CX0 (k + 1) f fd ps (spNew K) := by
  refine F.ok S (fun vs H Q E h => ?_) (fun cdv A outer s H vs Q E hr h => ?_)
  · obtain ⟨x, dx, rfl, _⟩ := h
    rw [hp] <;> rfl
  · obtain ⟨a, dx, rfl, k1, k2, n, r⟩ := h
    refine ⟨_, hbody cdv A outer s H E, a, dx, ?_, k1, k2, n, fun H' la pa g1 g2 g3 g4 g5 g6 g7 σ' => r H' la pa g1 g2 g3 g4 g5 g6 g7⟩
    have hn : 1 ≤ N.length := by
      have := congrArg List.length S.pre
      rw [List.length_take, hp] at this
      omega
    unfold L2.start
    simp
end
section
variable {X : Cx} {K : Nat → Addr} {c : C} {E : XK} {Γ Γ' : List Sl} {F F' H H' : Hp} {σ : L2.St} {pos : Pos} {e a b t : Expr} {m : WP D} {st : Srt} {x dx pa : Addr}
theorem s_init {s : Str} {p1 p2 p3 p4 q1 q2 r1 r2 : Pos} (cl : Cls X.K (K 6)) (na : NoAttr X.K (K 6) "labels") (na2 : NoAttr X.K (K 6) "past") (hN : X.N[0]? = some s) (hv : Vis X.env.scope s) (hd : (s == ("__debug__" : Str)) = false := by decide) (hcd : (s == ("__classdict__" : Str)) = false := by decide)
    (hs : swapsWith (.List [] q1) (some (.Attribute (.Name s p1) "labels" p2)) r1.line X.env = pure false := by rfl) (hs2 : swapsWith (.List [] q2) (some (.Attribute (.Name s p3) "past" p4)) r2.line X.env = pure false := by rfl) :
    PSs X [.Assign [.Attribute (.Name s p1) "labels" p2] (.List [] q1) r1, .Assign [.Attribute (.Name s p3) "past" p4] (.List [] q2) r2] (tInit K) :=
  pss_weak (pss_cons (ps_fld (pe_var hN hv hd hcd) (pe_lst pa_nil) hs) (pss_cons (ps_fld (pe_var hN hv hd hcd) (pe_lst pa_nil) hs2) pss_nil)) fun D σ H ⟨x, dx, h1, k1, k2, n, r⟩ => by
    refine ⟨Nat.zero_le _, fun la hla => ?_⟩
    have ne1 : x ≠ la := fun z => by rw [z, hla] at k1; cases k1
    have ne2 : dx ≠ la := fun z => by rw [z, hla] at k2; cases k2
    refine ⟨_, h1, x, K 6, dx, [], rfl, by rw [upd_ne ne1]; exact k1, cl, na, by simp, ?_⟩
    refine ⟨Nat.zero_le _, fun pa hpa => ?_⟩
    have ne3 : pa ≠ x := fun z => by rw [z, upd_same] at hpa; cases hpa
    rw [upd_ne ne3] at hpa
    have ne4 : pa ≠ la := fun z => by rw [z, upd_same] at hpa; cases hpa
    rw [upd_ne ne4] at hpa
    refine ⟨_, h1, x, K 6, dx, putF "labels" (.ref la) [], rfl, by rw [upd_ne (Ne.symm ne3), upd_same], cl, na2, by simp [putF], ?_⟩
    refine r _ la pa (fun q o hq nq => ?_) hla hpa (Ne.symm ne4) ?_ ?_ ?_ _
    · have q1 : q ≠ pa := fun z => by rw [z, hpa] at hq; cases hq
      have q2 : q ≠ la := fun z => by rw [z, hla] at hq; cases hq
      rw [upd_ne nq, upd_ne q1, upd_ne nq, upd_ne q2]; exact hq
    · rw [upd_ne (Ne.symm ne1), upd_ne (Ne.symm ne4), upd_ne (Ne.symm ne1), upd_same]
    · rw [upd_ne ne3, upd_same]
    · rw [upd_same]
      rfl
/-- s.past -/
theorem e_past (i : Nat) {s : Str} {p : Pos} (hs : HasSr K c Γ i st) (cl : Cls X.K (K 6)) (na : NoAttr X.K (K 6) "past") (hN : X.N[i]? = some s) (hv : Vis X.env.scope s) (hd : (s == ("__debug__" : Str)) = false := by decide) (hcd : (s == ("__classdict__" : Str)) = false := by decide)
    (hb : attributeBase (.Name s p) "past" X.env (eval (.Name s p) X.env) = eval (.Name s p) X.env := by rfl) : PE X (.Attribute (.Name s p) "past" pos) (tR K c E Γ (.ret (.list st.past))) :=
  pe_weak (pe_fld (pe_var hN hv hd hcd) hb) fun σ H Q ⟨F, o, r⟩ => by
    obtain ⟨x, dx, pa, h1, ⟨n, lv, pvs, k1, k2, k3, k4, k5⟩, _, hx⟩ := hs F H σ o
    exact ⟨_, h1, x, K 6, dx, _, _, rfl, k1, cl, na, rfl, r _ F H o .refl (.inr ⟨pa, pvs, _, rfl, rfl, k3, hx.2.2, k5⟩)⟩
/-- what a new object is -/
theorem Ok.made {i : Nat} {la : Addr} (o : Ok K c F H σ Γ) (hx : H x = none) (hdx : H dx = none) (n1 : dx ≠ x) (hla : H la = none) (hpa : H pa = none) (nl : la ≠ pa) (lx : la ≠ x) (ldx : la ≠ dx) (px : pa ≠ x) (pdx : pa ≠ dx)
    (eh : ∀ q o, H q = some o → H' q = some o) (h1 : H' la = some (.lst [])) (h2 : H' pa = some (.lst [])) (h3 : H' x = some (.ins (K 6) dx [("labels", .ref la), ("past", .ref pa)])) (h4 : H' dx = some (.own x)) :
    Ok K c (upd F la (.lst [])) H' (σ.set i (some (.ref x))) (Γ.set i (srt K ⟨[], []⟩)) := by
  have o1 := o.alloc (o := .lst []) hla
  refine o1.setR (fp := [x, dx, pa]) ⟨x, dx, pa, rfl, rfl, ⟨Ne.symm n1, Ne.symm px, Ne.symm pdx⟩, .ref la, [], h3, h4, h2, .lst upd_same .nil, .nil⟩ (fun q hq => ?_) (fun q u hq => ?_)
  · have hq : q = x ∨ q = dx ∨ q = pa := by simpa using hq
    rcases hq with rfl | rfl | rfl
    · exact ⟨by rw [upd_ne (Ne.symm lx)]; exact hx, by rw [h3]; exact fun z => by cases z⟩
    · exact ⟨by rw [upd_ne (Ne.symm ldx)]; exact hdx, by rw [h4]; exact fun z => by cases z⟩
    · exact ⟨by rw [upd_ne (Ne.symm nl)]; exact hpa, by rw [h2]; exact fun z => by cases z⟩
  · by_cases z : q = la
    · subst z; rw [upd_same] at hq; cases hq; exact h1
    · rw [upd_ne z] at hq; exact eh q u hq
theorem sp_new {Q : VK} (hx : H x = none) (hdx : H dx = none) (n1 : dx ≠ x) (q : ∀ H' la pa, H la = none → H pa = none → la ≠ pa → la ≠ x → la ≠ dx → pa ≠ x → pa ≠ dx → (∀ q o, H q = some o → H' q = some o) → H' la = some (.lst []) → H' pa = some (.lst []) → H' x = some (.ins (K 6) dx [("labels", .ref la), ("past", .ref pa)]) → H' dx = some (.own x) → Q .non H') :
    spNew K ([.ref x]) (upd (upd H dx (.own x)) x (.ins (K 6) dx [])) Q E := by
  refine ⟨x, dx, rfl, upd_same, by rw [upd_ne n1, upd_same], Ne.symm n1, fun H' la pa eh hl hp nl h1 h2 h3 => ?_⟩
  have a1 : la ≠ x := fun z => by rw [z, upd_same] at hl; cases hl
  have a2 : pa ≠ x := fun z => by rw [z, upd_same] at hp; cases hp
  rw [upd_ne a1] at hl
  rw [upd_ne a2] at hp
  have a3 : la ≠ dx := fun z => by rw [z, upd_same] at hl; cases hl
  have a4 : pa ≠ dx := fun z => by rw [z, upd_same] at hp; cases hp
  rw [upd_ne a3] at hl
  rw [upd_ne a4] at hp
  refine q H' la pa hl hp nl a1 a3 a2 a4 (fun r o hr => ?_) h1 h2 h3 ?_
  · have b1 : r ≠ x := fun z => by rw [z, hx] at hr; cases hr
    have b2 : r ≠ dx := fun z => by rw [z, hdx] at hr; cases hr
    exact eh r o (by rw [upd_ne b1, upd_ne b2]; exact hr) b1
  · exact eh dx _ (by rw [upd_ne n1, upd_same]) n1
/-- s = C() -/
theorem s_new (i : Nat) {s x : Str} {p pos' pos2 : Pos} {f : Addr} {fd : FuncData} {ps : List Str} {k : Nat} (M : Mk X.K (K 6) f) (G : FnOk X.prog X.w X.K X.mg X.base CX0 k f fd ps (spNew K)) (hr : Room (k + 1) X.A) (hg : Gl X x) (hm : X.mg x = some (.ref (K 6))) (hb : Binds X.K fd ps []) (hx : Passes CX0 X E0)
    (hN : X.N.Nodup) (hi : X.N[i]? = some s) (hl : Loc X.env.scope s) (hdb : (x == ("__debug__" : Str)) = false := by decide) (hs : swapsWith (.Call (.Name x p) [] [] pos2) (some (.Name s pos')) pos.line X.env = pure false := by rfl) (hf : X.fn s = true ∨ X.env.scope.names.lookup s = some .local := by first | exact .inl rfl | exact .inr rfl | assumption) :
    PS X (.Assign [.Name s pos'] (.Call (.Name x p) [] [] pos2) pos) (tX K c E Γ (.ret (⟨[], []⟩ : Srt)) fun st => Γ.set i (srt K st)) :=
  ps_weak (ps_set hN hi hl (pe_make0 M G hr hg hm hb .nil hx hdb) hs hf) fun D σ H ⟨F, o, r⟩ => by
    intro x dx nx ndx n1
    show spNew K ([.ref x] ++ ([] ++ [])) _ _ _
    refine sp_new nx ndx n1 fun H' la pa hl hp nl a1 a3 a2 a4 eh h1 h2 h3 h4 => ⟨rfl, ?_⟩
    exact r _ _ H' (o.made nx ndx n1 hl hp nl a1 a3 a2 a4 eh h1 h2 h3 h4) (Evl.Ex.new (ex_none o.bs.fh hl))
end
end GA
namespace GA
open PySem PySem.Spec PyProof.Rows L2
/-- a slot that holds the object -/
structure SlSr (K : Nat → Addr) (sl : Srt → Sl) : Prop where
  has : ∀ {c : C} {Γ : List Sl} {i : Nat} {st : Srt} {F H : Hp} {σ : L2.St}, Γ[i]? = some (sl st) → Ok K c F H σ Γ → ∃ x dx pa, σ[i]? = some (some (.ref x)) ∧ SrNow K c F H x dx pa st ∧ ∀ F' H' st', SrEnd K F H x dx pa F' H' st' → Ok K c F' H' σ (Γ.set i (sl st'))
section
variable {K : Nat → Addr} {F F' H H' : Hp} {c : C} {σ : L2.St} {Γ Γ' : List Sl} {x dx pa dx' pa' : Addr} {st st' : Srt}
theorem SrAt.uniq (h : SrAt K F H x dx pa st) (h' : SrAt K F' H x dx' pa' st') : dx = dx' ∧ pa = pa' := by
  obtain ⟨_, lv, pvs, k1, _⟩ := h
  obtain ⟨_, lv', pvs', k1', _⟩ := h'
  rw [k1] at k1'
  simp only [Option.some.injEq, HO.ins.injEq, List.cons.injEq, Prod.mk.injEq, true_and, and_true] at k1'
  obtain ⟨e1, e2, e3⟩ := k1'
  exact ⟨e1, by cases e3; rfl⟩
theorem SrEnd.sub (e : SrEnd K F H x dx pa F' H' st') : (∀ a o, H a = some o → a ∉ [x, dx, pa] → H' a = some o) ∧ ∀ a, a ∈ [x, dx, pa] → H' a ≠ none ∧ F' a = none := by
  refine ⟨fun a o h n => e.h a o h (fun z => n (by simp [z])) (fun z => n (by simp [z])) (fun z => n (by simp [z])), fun a ha => ?_⟩
  have s := e.at_.some
  have ha : a = x ∨ a = dx ∨ a = pa := by simpa using ha
  rcases ha with rfl | rfl | rfl
  · exact ⟨s.1, e.f.1⟩
  · exact ⟨s.2.1, e.f.2.1⟩
  · exact ⟨s.2.2, e.f.2.2⟩
theorem sl_srt : SlSr K (srt K) := ⟨fun {c Γ i st F H σ} hi o => by
  obtain ⟨x, dx, pa, h1, n⟩ := hs_srt (c := c) hi F H σ o
  refine ⟨x, dx, pa, h1, n, fun F' H' st' e => ?_⟩
  obtain ⟨s1, s2⟩ := e.sub
  exact o.swapC (fp0 := [x, dx, pa]) hi h1 (fun fp ⟨x', dx', pa', e1, e2, e3⟩ => by
    cases e1
    obtain ⟨z1, z2⟩ := e3.uniq n.at_
    rw [e2, z1, z2]) e.f0 e.fh e.nw s1 s2 ⟨x, dx, pa, rfl, rfl, e.at_⟩⟩
theorem sl_srtA : SlSr K (srtA K x dx pa) := ⟨fun {c Γ i st F H σ} hi o => by
  obtain ⟨x', dx', pa', h1, n⟩ := hs_srtA (c := c) hi F H σ o
  obtain ⟨h1', n'⟩ := o.srtA_at hi
  rw [h1] at h1'
  cases h1'
  obtain ⟨z1, z2⟩ := n'.uniq n.at_
  subst z1 z2
  refine ⟨x, dx, pa, h1, n, fun F' H' st' e => ?_⟩
  obtain ⟨s1, s2⟩ := e.sub
  exact o.swapC (fp0 := [x, dx, pa]) hi h1 (fun fp ⟨_, e2, _⟩ => e2) e.f0 e.fh e.nw s1 s2 ⟨rfl, rfl, e.at_⟩⟩
theorem SlSr.hs {sl : Srt → Sl} (S : SlSr K sl) {i : Nat} (hi : Γ[i]? = some (sl st)) : HasSr K c Γ i st := fun F H σ o => by
  obtain ⟨x, dx, pa, h1, n, _⟩ := S.has hi o
  exact ⟨x, dx, pa, h1, n⟩
end
/-! readings that change the object at the slot i -/
def tV (K : Nat → Addr) (c : C) (E : XK) (Γ : List Sl) (i : Nat) (sl : Srt → Sl) (m : WP (D × Srt)) : TE := fun σ H Q => ∃ F, Ok K c F H σ Γ ∧ m.run (fun p => ∀ v F' H', Ok K c F' H' σ (Γ.set i (sl p.2)) → Ex F F' → Rp K F' v p.1 → Q v H') (eK K E c)
def tTV (K : Nat → Addr) (c : C) (E : XK) (Γ : List Sl) (i : Nat) (sl : Srt → Sl) (m : WP (Bool × Srt)) : TT := fun σ H Q => ∃ F, Ok K c F H σ Γ ∧ m.run (fun p => ∀ F' H', Ok K c F' H' σ (Γ.set i (sl p.2)) → Ex F F' → Q p.1 H') (eK K E c)
def tVT (K : Nat → Addr) (c : C) (W : WX) (Γ : List Sl) (i : Nat) (sl : Srt → Sl) (m : WP (D × Srt)) : TE := fun σ H Q => ∃ F, Ok K c F H σ Γ ∧ m.run (fun p => ∀ v F' H', Ok K c F' H' σ (Γ.set i (sl p.2)) → Ex F F' → Rp K F' v p.1 → Q v H') (fun k => ∀ F' H', Ok K c F' H' σ Γ → Ex F F' → W (.ref (K k)) none σ H')
section
variable {X : Cx} {CX : CXT} {k : Nat} {f C : Addr} {fd : FuncData} {ps : List Str} {sp : Sp} {E : L2.St → XK} {mt : Str} {pos apos : Pos} {e o : Expr} {es : List Expr} {ta : TE} {t : TA}
def tMethA (C : Addr) (m : Str) (sp : Sp) (E : L2.St → XK) (ta : TE) (t : TA) : TE := fun σ H Q => ta σ H fun x H1 => ∃ a dx fs, x = .ref a ∧ H1 a = some (.ins C dx fs) ∧ fs.lookup m = none ∧ t σ H1 fun vs H2 => sp (x :: vs) H2 Q (E σ)
theorem pe_methA {pl : Sem Bool} (he : PE X o ta) (c : Cls X.K C) (hm : Meth X.K C mt f) (F : FnOk X.prog X.w X.K X.mg X.base CX k f fd ps sp) (hr : Room k X.A) (hb : Binds X.K fd ps []) (hx : ∀ σ, PassesAt CX X σ (E σ)) (ha : PA X (e :: es) t)
    (hst : starEach (e :: es) X.env = (false, eval e X.env) :: starEach es X.env := by rfl) (hpl : (backTo pos (starEach es X.env)).any (·.1) = false := by rfl)
    (ht : eval (.Call (.Attribute o mt apos) (e :: es) [] pos) X.env = (do
      let ov ← eval o X.env
      standAt apos.atName
      let (f, first) ← holding [ov] (getMethod ov mt pl)
      callWith pos f first (backTo pos (starEach (e :: es) X.env)) (backToKw pos (keywordEach [] X.env))) := by rfl) :
    PE X (.Call (.Attribute o mt apos) (e :: es) [] pos) (tMethA C mt sp E ta t) := by
  refine ⟨fun pins s σ H Q I h => ?_⟩
  refine PySem.W.methodCall_KW (pl := pl) (thn (he.run pins s σ H _ I h) fun u s1 ⟨x, H1, I1, rx, a, dx, fs, ex, ea, l, q⟩ => ?_) ht
  subst ex
  obtain rfl : u = Value.ref a := rx
  refine getmeth_ok I1 ea c hm l ?_
  refine PySem.W.callWith_K (first := [.ref a]) (h₀ := X.base) I.ok.mod.kin hm.kp (thn (ha.run pos pins s1 σ H1 _ I1 q) fun us s2 ⟨vs, H2, I2, r, q2⟩ => ⟨I2.kIn, ?_⟩) hst hpl
  exact run_fnS (us := .ref a :: us) (vs := .ref a :: vs) F hr hb (hx σ) I2 (.cons rfl r) q2
theorem pe_methA0 {pl : Sem Bool} (he : PE X o ta) (c : Cls X.K C) (hm : Meth X.K C mt f) (F : FnOk X.prog X.w X.K X.mg X.base CX k f fd ps sp) (hr : Room k X.A) (hb : Binds X.K fd ps []) (hx : ∀ σ, PassesAt CX X σ (E σ))
    (ht : eval (.Call (.Attribute o mt apos) [] [] pos) X.env = (do
      let ov ← eval o X.env
      standAt apos.atName
      let (f, first) ← holding [ov] (getMethod ov mt pl)
      callWith pos f first (backTo pos (starEach [] X.env)) (backToKw pos (keywordEach [] X.env))) := by rfl) :
    PE X (.Call (.Attribute o mt apos) [] [] pos) (tMethA C mt sp E ta tNil) := by
  refine ⟨fun pins s σ H Q I h => ?_⟩
  refine PySem.W.methodCall_KW (pl := pl) (thn (he.run pins s σ H _ I h) fun u s1 ⟨x, H1, I1, rx, a, dx, fs, ex, ea, l, q⟩ => ?_) ht
  subst ex
  obtain rfl : u = Value.ref a := rx
  refine getmeth_ok I1 ea c hm l ?_
  exact PySem.W.callWith_K0 (first := [.ref a]) I1.kIn hm.kp (run_fnS (us := [.ref a]) (vs := [.ref a]) F hr hb (hx σ) I1 (.cons rfl .nil) q)
end
section
variable {X : Cx} {K : Nat → Addr} {c : C} {E : XK} {Γ Γ' : List Sl} {F F' H H' : Hp} {σ : L2.St} {pos : Pos} {e a b t : Expr} {es rest : List Expr} {ms : WP (List D)} {m ma mb : WP D} {st : Srt} {sl : Srt → Sl} {stm : Stmt} {A sts : List Stmt}
/-- s.m(e, ..) -/
theorem e_meth (i : Nat) {s mt : Str} {p apos : Pos} {CX : CXT} {k n : Nat} {f : Addr} {fd : FuncData} {ps : List Str} {g : Srt → List D → WP (D × Srt)} {pl : Sem Bool} (S : SlSr K sl) (hi : Γ[i]? = some (sl st)) (cl : Cls X.K (K 6)) (hm : Meth X.K (K 6) mt f) (G : FnOk X.prog X.w X.K X.mg X.base CX k f fd ps (spM K n g)) (hr : Room k X.A) (hb : Binds X.K fd ps []) (hx : Passes CX X E)
    (hN : X.N[i]? = some s) (hv : Vis X.env.scope s) (ha : PL X K c E Γ (e :: es) ms) (hl : (e :: es).length = n := by rfl) (hne : (mt == ("labels" : Str)) = false ∧ (mt == ("past" : Str)) = false := by decide) (hd : (s == ("__debug__" : Str)) = false := by decide) (hcd : (s == ("__classdict__" : Str)) = false := by decide)
    (hst : starEach (e :: es) X.env = (false, eval e X.env) :: starEach es X.env := by rfl) (hpl : (backTo pos (starEach es X.env)).any (·.1) = false := by rfl)
    (ht : eval (.Call (.Attribute (.Name s p) mt apos) (e :: es) [] pos) X.env = (do
      let ov ← eval (.Name s p) X.env
      standAt apos.atName
      let (f, first) ← holding [ov] (getMethod ov mt pl)
      callWith pos f first (backTo pos (starEach (e :: es) X.env)) (backToKw pos (keywordEach [] X.env))) := by rfl) :
    PE X (.Call (.Attribute (.Name s p) mt apos) (e :: es) [] pos) (tV K c E Γ i sl (ms.bind fun ds => g st ds)) :=
  pe_weak (pe_meth (pe_var hN hv hd hcd) cl hm G hr hb .nil hx ha.pa hst hpl ht) fun σ H Q ⟨F, o, r⟩ => by
    obtain ⟨x, dx, pa, h1, nw, _⟩ := S.has hi o
    obtain ⟨nn, lv, pvs, k1, k2, k3, k4, k5⟩ := nw.at_
    have hlk : List.lookup mt [(("labels" : Str), lv), ("past", .ref pa)] = none := by
      simp only [List.lookup_cons, hne.1, hne.2, List.lookup_nil]
    refine ⟨_, h1, x, dx, _, rfl, k1, hlk, F, o, ms.mono _ _ _ _ (fun ds ⟨l, r⟩ vs F1 H1 o1 g1 x1 => ?_) (fun _ z => z) (ha.ln _ _ r)⟩
    show spM K n g (.ref x :: (vs ++ [])) H1 Q E
    rw [List.append_nil]
    obtain ⟨x', dx', pa', h1', nw', up⟩ := S.has hi o1
    rw [h1] at h1'
    cases h1'
    refine ⟨F1, ds, x, dx', pa', st, vs, rfl, nw'.at_, nw'.f, o1.bs.fh, x1, l.trans hl, (g st ds).mono _ _ _ _ (fun p q v F' H' en rp => q v F' H' (up F' H' p.2 en) (exT g1.f en.f0) rp) (fun k q H' eh => ?_) r⟩
    exact q H' (o1.grow eh (exR F1) (exT o1.bs.fh eh) fun a u h => .inl h).pres
theorem e_meth0 (i : Nat) {s mt : Str} {p apos : Pos} {CX : CXT} {k : Nat} {f : Addr} {fd : FuncData} {ps : List Str} {g : Srt → List D → WP (D × Srt)} {pl : Sem Bool} (S : SlSr K sl) (hi : Γ[i]? = some (sl st)) (cl : Cls X.K (K 6)) (hm : Meth X.K (K 6) mt f) (G : FnOk X.prog X.w X.K X.mg X.base CX k f fd ps (spM K 0 g)) (hr : Room k X.A) (hb : Binds X.K fd ps []) (hx : Passes CX X E)
    (hN : X.N[i]? = some s) (hv : Vis X.env.scope s) (hne : (mt == ("labels" : Str)) = false ∧ (mt == ("past" : Str)) = false := by decide) (hd : (s == ("__debug__" : Str)) = false := by decide) (hcd : (s == ("__classdict__" : Str)) = false := by decide)
    (ht : eval (.Call (.Attribute (.Name s p) mt apos) [] [] pos) X.env = (do
      let ov ← eval (.Name s p) X.env
      standAt apos.atName
      let (f, first) ← holding [ov] (getMethod ov mt pl)
      callWith pos f first (backTo pos (starEach [] X.env)) (backToKw pos (keywordEach [] X.env))) := by rfl) :
    PE X (.Call (.Attribute (.Name s p) mt apos) [] [] pos) (tV K c E Γ i sl (g st [])) :=
  pe_weak (pe_meth0 (pe_var hN hv hd hcd) cl hm G hr hb .nil hx ht) fun σ H Q ⟨F, o, r⟩ => by
    obtain ⟨x, dx, pa, h1, nw, up⟩ := S.has hi o
    obtain ⟨nn, lv, pvs, k1, k2, k3, k4, k5⟩ := nw.at_
    have hlk : List.lookup mt [(("labels" : Str), lv), ("past", .ref pa)] = none := by
      simp only [List.lookup_cons, hne.1, hne.2, List.lookup_nil]
    refine ⟨_, h1, x, dx, _, rfl, k1, hlk, ?_⟩
    refine ⟨F, [], x, dx, pa, st, [], rfl, nw.at_, nw.f, o.bs.fh, .nil, rfl, (g st []).mono _ _ _ _ (fun p q v F' H' en rp => q v F' H' (up F' H' p.2 en) en.f0 rp) (fun k q H' eh => ?_) r⟩
    exact q H' (o.grow eh (exR F) (exT o.bs.fh eh) fun a u h => .inl h).pres
variable {W : WX}
theorem e_methT (i : Nat) {s mt : Str} {p apos : Pos} {k n : Nat} {f : Addr} {fd : FuncData} {ps : List Str} {g : Srt → List D → WP (D × Srt)} {pl : Sem Bool} (S : SlSr K sl) (hi : Γ[i]? = some (sl st)) (tk : Takes X W) (cl : Cls X.K (K 6)) (hm : Meth X.K (K 6) mt f) (G : FnOk X.prog X.w X.K X.mg X.base (L2.CX X.prog X.w) k f fd ps (spM K n g)) (hr : Room k X.A) (hb : Binds X.K fd ps [])
    (hN : X.N[i]? = some s) (hv : Vis X.env.scope s) (ha : PL X K c E0 Γ (e :: es) ms) (hl : (e :: es).length = n := by rfl) (hne : (mt == ("labels" : Str)) = false ∧ (mt == ("past" : Str)) = false := by decide) (hd : (s == ("__debug__" : Str)) = false := by decide) (hcd : (s == ("__classdict__" : Str)) = false := by decide)
    (hst : starEach (e :: es) X.env = (false, eval e X.env) :: starEach es X.env := by rfl) (hpl : (backTo pos (starEach es X.env)).any (·.1) = false := by rfl)
    (ht : eval (.Call (.Attribute (.Name s p) mt apos) (e :: es) [] pos) X.env = (do
      let ov ← eval (.Name s p) X.env
      standAt apos.atName
      let (f, first) ← holding [ov] (getMethod ov mt pl)
      callWith pos f first (backTo pos (starEach (e :: es) X.env)) (backToKw pos (keywordEach [] X.env))) := by rfl) :
    PE X (.Call (.Attribute (.Name s p) mt apos) (e :: es) [] pos) (tVT K c W Γ i sl (ms.noE.bind fun ds => g st ds)) :=
  pe_weak (pe_methA (pe_var hN hv hd hcd) cl hm G hr hb (fun σ => passAt tk σ) ha.pa hst hpl ht) fun σ H Q ⟨F, o, r⟩ => by
    obtain ⟨x, dx, pa, h1, nw, _⟩ := S.has hi o
    obtain ⟨nn, lv, pvs, k1, k2, k3, k4, k5⟩ := nw.at_
    have hlk : List.lookup mt [(("labels" : Str), lv), ("past", .ref pa)] = none := by
      simp only [List.lookup_cons, hne.1, hne.2, List.lookup_nil]
    refine ⟨_, h1, x, dx, _, rfl, k1, hlk, F, o, ms.mono _ _ _ _ (fun ds ⟨l, r⟩ vs F1 H1 o1 g1 x1 => ?_) (fun _ z => z.elim) (ha.ln _ _ r)⟩
    obtain ⟨x', dx', pa', h1', nw', up⟩ := S.has hi o1
    rw [h1] at h1'
    cases h1'
    refine ⟨F1, ds, x, dx', pa', st, vs, rfl, nw'.at_, nw'.f, o1.bs.fh, x1, l.trans hl, (g st ds).mono _ _ _ _ (fun p q v F' H' en rp => q v F' H' (up F' H' p.2 en) (exT g1.f en.f0) rp) (fun k q H' eh => ?_) r⟩
    exact q F1 H' (o1.grow eh (exR F1) (exT o1.bs.fh eh) fun a u h => .inl h) g1.f
theorem e_methT0 (i : Nat) {s mt : Str} {p apos : Pos} {k : Nat} {f : Addr} {fd : FuncData} {ps : List Str} {g : Srt → List D → WP (D × Srt)} {pl : Sem Bool} (S : SlSr K sl) (hi : Γ[i]? = some (sl st)) (tk : Takes X W) (cl : Cls X.K (K 6)) (hm : Meth X.K (K 6) mt f) (G : FnOk X.prog X.w X.K X.mg X.base (L2.CX X.prog X.w) k f fd ps (spM K 0 g)) (hr : Room k X.A) (hb : Binds X.K fd ps [])
    (hN : X.N[i]? = some s) (hv : Vis X.env.scope s) (hne : (mt == ("labels" : Str)) = false ∧ (mt == ("past" : Str)) = false := by decide) (hd : (s == ("__debug__" : Str)) = false := by decide) (hcd : (s == ("__classdict__" : Str)) = false := by decide)
    (ht : eval (.Call (.Attribute (.Name s p) mt apos) [] [] pos) X.env = (do
      let ov ← eval (.Name s p) X.env
      standAt apos.atName
      let (f, first) ← holding [ov] (getMethod ov mt pl)
      callWith pos f first (backTo pos (starEach [] X.env)) (backToKw pos (keywordEach [] X.env))) := by rfl) :
    PE X (.Call (.Attribute (.Name s p) mt apos) [] [] pos) (tVT K c W Γ i sl (g st [])) :=
  pe_weak (pe_methA0 (pe_var hN hv hd hcd) cl hm G hr hb (fun σ => passAt tk σ) ht) fun σ H Q ⟨F, o, r⟩ => by
    obtain ⟨x, dx, pa, h1, nw, up⟩ := S.has hi o
    obtain ⟨nn, lv, pvs, k1, k2, k3, k4, k5⟩ := nw.at_
    have hlk : List.lookup mt [(("labels" : Str), lv), ("past", .ref pa)] = none := by
      simp only [List.lookup_cons, hne.1, hne.2, List.lookup_nil]
    refine ⟨_, h1, x, dx, _, rfl, k1, hlk, ?_⟩
    refine ⟨F, [], x, dx, pa, st, [], rfl, nw.at_, nw.f, o.bs.fh, .nil, rfl, (g st []).mono _ _ _ _ (fun p q v F' H' en rp => q v F' H' (up F' H' p.2 en) en.f0 rp) (fun k q H' eh => ?_) r⟩
    exact q F H' (o.grow eh (exR F) (exT o.bs.fh eh) fun a u h => .inl h) (exR F)
variable {v : WP (D × Srt)} {i : Nat}
theorem s_dropV (h : PE X e (tV K c E Γ i sl v)) (hs : swapsWith e none pos.line X.env = pure false := by rfl) : PS X (.Expr e pos) (tX K c E Γ (v.bind fun p => .ret p.2) fun st => Γ.set i (sl st)) :=
  ps_weak (ps_expr h hs) fun D σ H ⟨F, o, r⟩ => ⟨F, o, v.mono _ _ _ _ (fun p q w F' H' o' ef x => q σ F' H' o' ef) (fun _ z => z) r⟩
theorem s_dropVT (h : PE X e (tVT K c W Γ i sl v)) (hs : swapsWith e none pos.line X.env = pure false := by rfl) : PSs X [.Expr e pos] (tXT K c W Γ (v.bind fun p => .ret p.2) fun st => Γ.set i (sl st)) :=
  pss_weak (pss_one (ps_expr h hs)) fun D σ H ⟨F, o, r⟩ => ⟨F, o, v.mono _ _ _ _ (fun p q w F' H' o' ef x => q σ F' H' o' ef) (fun _ z => z) r⟩
theorem s_asgVT (j : Nat) {x : Str} {pos' : Pos} (hN : X.N.Nodup) (hj : X.N[j]? = some x) (hx : Loc X.env.scope x) (h : PE X e (tVT K c W Γ i sl v)) (hs : swapsWith e (some (.Name x pos')) pos.line X.env = pure false := by rfl) (hf : X.fn x = true ∨ X.env.scope.names.lookup x = some .local := by first | exact .inl rfl | exact .inr rfl | assumption) :
    PSs X [.Assign [.Name x pos'] e pos] (tXT K c W Γ v fun p => (Γ.set i (sl p.2)).set j (.imm p.1)) :=
  pss_weak (pss_one (ps_set hN hj hx h hs hf)) fun D σ H ⟨F, o, r⟩ => ⟨F, o, v.mono _ _ _ _ (fun p q w F' H' o' ef x => q _ F' H' (o'.set x) ef) (fun _ z => z) r⟩
/-! comparisons, or, if -/
theorem e_cmpV {op : CmpOp} {r : R2} {f : D → D → Option D} {mb : Srt → WP D} (ho : OpR X (compareOp op) r) (hr : OpD K r f) (ha : PE X a (tV K c E Γ i sl v)) (hb : ∀ st, PE X b (tR K c E (Γ.set i (sl st)) (mb st))) (hm : behindInMarks op b = false) :
    PE X (.Compare a [op] [b] pos) (tV K c E Γ i sl (v.bind fun p => (mb p.2).bind fun y => (WP.opt (f p.1 y)).bind fun z => .ret (z, p.2))) :=
  pe_weak (pe_cmpR ho ha (pe_ex hb) hm) fun σ H Q ⟨F, o, h⟩ => by
    refine ⟨F, o, v.mono _ _ _ _ (fun p q w F1 H1 o1 e1 x1 => ⟨p.2, F1, o1, (mb p.2).mono _ _ _ _ (fun y q w2 F2 H2 o2 g2 x2 => ?_) (fun _ z => z) q⟩) (fun _ z => z) h⟩
    obtain ⟨z, hz, q⟩ := WP.opt_run q
    exact hr c _ σ F2 H2 w w2 p.1 y z _ o2 (.inl (dp_mono g2.f x1)) x2 hz fun v' F' H' o' g' x' => q v' F' H' o' (exT e1 (exT g2.f g'.f)) x'
theorem q_cmpV {op : CmpOp} {r : R2} {f : D → D → Option D} {mb : Srt → WP D} (ho : OpR X (compareOp op) r) (hr : OpD K r f) (ha : PE X a (tV K c E Γ i sl v)) (hb : ∀ st, PE X b (tR K c E (Γ.set i (sl st)) (mb st))) (hm : behindInMarks op b = false) :
    PT X (.Compare a [op] [b] pos) (tTV K c E Γ i sl (v.bind fun p => (mb p.2).bind fun y => (WP.opt (f p.1 y)).bind fun z => (WP.opt (dBool z)).bind fun b => .ret (b, p.2))) :=
  pt_weak (pt_cmpR ho ha (pe_ex hb) hm) fun σ H Q ⟨F, o, h⟩ => by
    refine ⟨F, o, v.mono _ _ _ _ (fun p q w F1 H1 o1 e1 x1 => ⟨p.2, F1, o1, (mb p.2).mono _ _ _ _ (fun y q w2 F2 H2 o2 g2 x2 => ?_) (fun _ z => z) q⟩) (fun _ z => z) h⟩
    obtain ⟨z, hz, q⟩ := WP.opt_run q
    refine hr c _ σ F2 H2 w w2 p.1 y z _ o2 (.inl (dp_mono g2.f x1)) x2 hz fun v' F' H' o' g' x' => ?_
    obtain ⟨bb, hb', q⟩ := WP.opt_run q
    cases z <;> simp [dBool] at hb'
    subst hb'
    cases x'
    exact ⟨_, rfl, q F' H' o' (exT e1 (exT g2.f g'.f))⟩
variable {qa : WP (Bool × Srt)} {qb : Srt → WP (Bool × Srt)}
theorem pw_ex {α : Type} {X : Cx} {e : Expr} {u : α → TT} (h : ∀ a, PW X e (u a)) : PW X e (fun σ H Q => ∃ a, u a σ H Q) := ⟨fun wh pins s σ H Q I ⟨a, q⟩ => (h a).run wh pins s σ H Q I q⟩
theorem w_orV1 (h : PT X e (tTV K c E Γ i sl qa)) : PW X (.BoolOp .Or [e] pos) (tTV K c E Γ i sl qa) := pw_or1 h
theorem w_orV (h : PT X a (tTV K c E Γ i sl qa)) (h2 : ∀ st, PW X (.BoolOp .Or (b :: rest) pos) (tTV K c E (Γ.set i (sl st)) i sl (qb st))) : PW X (.BoolOp .Or (a :: b :: rest) pos) (tTV K c E Γ i sl (qa.bind fun p => if p.1 = true then .ret (true, p.2) else qb p.2)) :=
  ⟨fun wh pins s σ H Q I hw => (pw_or h (pw_ex h2)).run wh pins s σ H Q I (by
    obtain ⟨F, o, hw⟩ := hw
    refine ⟨F, o, qa.mono _ _ _ _ (fun p q F1 H1 o1 e1 => ?_) (fun _ z => z) hw⟩
    obtain ⟨bb, s1⟩ := p
    cases bb with
    | true => exact q F1 H1 o1 e1
    | false => exact ⟨s1, F1, o1, (qb s1).mono _ _ _ _ (fun p q F2 H2 o2 e2 => q F2 H2 (by rw [List.set_set] at o2; exact o2) (exT e1 e2)) (fun _ z => z) q⟩)⟩
/-- a test that changes nothing -/
theorem q_T {q : WP Bool} (hi : Γ[i]? = some (sl st)) (h : PT X e (tT K c E Γ q)) : PT X e (tTV K c E Γ i sl (q.bind fun b => .ret (b, st))) := pt_weak h fun σ H Q ⟨F, o, r⟩ => ⟨F, o, q.mono _ _ _ _ (fun b p F' H' o' g => p F' H' (by
  have e0 : Γ.set i (sl st) = Γ := by
    have hl : i < Γ.length := (List.getElem?_eq_some_iff.mp hi).1
    refine List.ext_getElem? fun j => ?_
    by_cases q : i = j
    · subst q; rw [List.getElem?_set_self hl, hi]
    · rw [List.getElem?_set_ne q]
  rw [e0]; exact o') g.f) (fun _ z => z) r⟩
theorem e_V (hi : Γ[i]? = some (sl st)) (h : PE X e (tW K c E Γ m)) : PE X e (tV K c E Γ i sl (m.bind fun d => .ret (d, st))) := pe_weak h fun σ H Q ⟨F, o, r⟩ => ⟨F, o, m.mono _ _ _ _ (fun b p v F' H' o' g x => p v F' H' (by
  have e0 : Γ.set i (sl st) = Γ := by
    have hl : i < Γ.length := (List.getElem?_eq_some_iff.mp hi).1
    refine List.ext_getElem? fun j => ?_
    by_cases q : i = j
    · subst q; rw [List.getElem?_set_self hl, hi]
    · rw [List.getElem?_set_ne q]
  rw [e0]; exact o') g.f x) (fun _ z => z) r⟩
/-- if t: A (it returns), then the rest -/
theorem s_ifV {ma : WP D} {f : Srt → WP D} (ht : PT X t (tTV K c E Γ i sl qa)) (ha : ∀ st, PSs X A (tE K c E (Γ.set i (sl st)) ma)) (hr : ∀ st, PSs X sts (tE K c E (Γ.set i (sl st)) (f st))) : PSs X (.If t A [] pos :: sts) (tE K c E Γ (qa.bind fun p => if p.1 = true then ma else f p.2)) :=
  pss_weak (pss_cons (ps_if ht (pss_ex ha) pss_nil) (pss_ex hr)) fun D σ H ⟨F, o, r⟩ => ⟨F, o, qa.mono _ _ _ _ (fun p q F1 H1 o1 e1 => by
    obtain ⟨bb, s1⟩ := p
    cases bb with
    | true => exact ⟨s1, F1, o1, ma.mono _ _ _ _ (fun d p v F2 H2 b2 e2 => p v F2 H2 b2 (exT e1 e2)) (fun _ z => z) q⟩
    | false => exact ⟨s1, F1, o1, (f s1).mono _ _ _ _ (fun d p v F2 H2 b2 e2 => p v F2 H2 b2 (exT e1 e2)) (fun _ z => z) q⟩) (fun _ z => z) r⟩
theorem s_retV (h : PE X e (tV K c E Γ i sl v)) : PSs X (.Return (some e) pos :: sts) (tE K c E Γ (v.bind fun p => .ret p.1)) := pss_weak (pss_ret h) fun D σ H ⟨F, o, r⟩ => ⟨F, o, v.mono _ _ _ _ (fun p q w F' H' o' g x => q w F' H' o'.bs g x) (fun _ z => z) r⟩
/-- a and b as a value -/
theorem e_andV {mb : Srt → WP (D × Srt)} (ha : PE X a (tV K c E Γ i sl v)) (hb : ∀ st, PE X (.BoolOp .And (b :: rest) pos) (tV K c E (Γ.set i (sl st)) i sl (mb st))) : PE X (.BoolOp .And (a :: b :: rest) pos) (tV K c E Γ i sl (v.bind fun p => (WP.opt (dBool p.1)).bind fun x => if x = true then mb p.2 else .ret (.bool false, p.2))) :=
  pe_weak (pe_and ha (pe_ex hb)) fun σ H Q h => by
    obtain ⟨F, o, hw⟩ := h
    refine ⟨F, o, v.mono _ _ _ _ (fun p q w F1 H1 o1 e1 x1 => ?_) (fun _ z => z) hw⟩
    obtain ⟨d, s1⟩ := p
    obtain ⟨z, hz, q⟩ := WP.opt_run q
    cases d <;> simp [dBool] at hz
    subst hz
    cases x1
    refine ⟨_, rfl, ?_⟩
    rename_i z _
    cases z with
    | false => exact q _ F1 H1 o1 e1 (.bl false)
    | true => exact ⟨s1, F1, o1, (mb s1).mono _ _ _ _ (fun p q w F2 H2 o2 e2 x2 => q w F2 H2 (by rw [List.set_set] at o2; exact o2) (exT e1 e2) x2) (fun _ z => z) q⟩
theorem e_lastV {op : BoolOp} (ha : PE X a (tV K c E Γ i sl v)) : PE X (.BoolOp op [a] pos) (tV K c E Γ i sl v) := pe_one ha
end
end GA
namespace GA
open PySem PySem.Spec PyProof.Rows L2
section
variable {X : Cx} {K : Nat → Addr} {c : C} {E : XK} {Γ Γ' : List Sl} {F F' H H' : Hp} {σ : L2.St} {pos : Pos} {e a b t : Expr} {es : List Expr} {ms : WP (List D)} {st : Srt} {sl : Srt → Sl} {stm : List Stmt} {v : WP (D × Srt)} {i : Nat} {x dx pa : Addr}
theorem tQ_eq {m m' : WP (D × Srt)} (h : PSs X stm (tQ K c x dx pa E Γ m)) (e : m' = m) : PSs X stm (tQ K c x dx pa E Γ m') := e ▸ h
theorem tQn_eq {m m' : WP Srt} (h : PSs X stm (tQn K c x dx pa E Γ m)) (e : m' = m) : PSs X stm (tQn K c x dx pa E Γ m') := e ▸ h
theorem s_asgV (j : Nat) {y : Str} {pos' : Pos} (hN : X.N.Nodup) (hj : X.N[j]? = some y) (hx : Loc X.env.scope y) (h : PE X e (tV K c E Γ i sl v)) (hs : swapsWith e (some (.Name y pos')) pos.line X.env = pure false := by rfl) (hf : X.fn y = true ∨ X.env.scope.names.lookup y = some .local := by first | exact .inl rfl | exact .inr rfl | assumption) :
    PS X (.Assign [.Name y pos'] e pos) (tX K c E Γ v fun p => (Γ.set i (sl p.2)).set j (.imm p.1)) :=
  ps_weak (ps_set hN hj hx h hs hf) fun D σ H ⟨F, o, r⟩ => ⟨F, o, v.mono _ _ _ _ (fun p q w F' H' o' ef x => q _ F' H' (o'.set x) ef) (fun _ z => z) r⟩
/-- f(s, e, ..), s the object -/
theorem e_callM {CX : CXT} {k : Nat} {f : Addr} {fd : FuncData} {ps : List Str} {x y : Str} {p p2 : Pos} {g : Srt → List D → WP (D × Srt)} {n : Nat} (i : Nat) (S : SlSr K sl) (hi : Γ[i]? = some (sl st)) (G : FnOk X.prog X.w X.K X.mg X.base CX k f fd ps (spM K n g)) (hr : Room k X.A) (hg : Gl X x) (hm : X.mg x = some (.ref f)) (hk : PySem.W.keepIn X.K (.ref f) = true) (hb : Binds X.K fd ps []) (hx : Passes CX X E)
    (hN : X.N[i]? = some y) (hv : Vis X.env.scope y) (ha : PL X K c E Γ es ms) (hl : es.length = n := by rfl) (hd : (y == ("__debug__" : Str)) = false := by decide) (hcd : (y == ("__classdict__" : Str)) = false := by decide)
    (hdb : (x == ("__debug__" : Str)) = false := by decide) (he : starEach (.Name y p2 :: es) X.env = (false, eval (.Name y p2) X.env) :: starEach es X.env := by rfl) (hpl : (backTo pos (starEach es X.env)).any (·.1) = false := by rfl) :
    PE X (.Call (.Name x p) (.Name y p2 :: es) [] pos) (tV K c E Γ i sl (ms.bind fun ds => g st ds)) :=
  pe_weak (pe_call G hr hg hm hk hb .nil hx (pa_cons (pe_var hN hv hd hcd) ha.pa he) hdb he hpl) fun σ H Q ⟨F, o, r⟩ => by
    obtain ⟨x0, _, _, h1, _⟩ := S.has hi o
    refine ⟨.ref x0, h1, F, o, ms.mono _ _ _ _ (fun ds ⟨l, r⟩ vs F1 H1 o1 g1 x1 => ?_) (fun _ z => z) (ha.ln _ _ r)⟩
    show spM K n g ((.ref x0 :: vs) ++ []) H1 Q E
    rw [List.append_nil]
    obtain ⟨x', dx', pa', h1', nw', up⟩ := S.has hi o1
    rw [h1] at h1'
    cases h1'
    refine ⟨F1, ds, x0, dx', pa', st, vs, rfl, nw'.at_, nw'.f, o1.bs.fh, x1, l.trans hl, (g st ds).mono _ _ _ _ (fun p q v F' H' en rp => q v F' H' (up F' H' p.2 en) (exT g1.f en.f0) rp) (fun k q H' eh => ?_) r⟩
    exact q H' (o1.grow eh (exR F1) (exT o1.bs.fh eh) fun a u h => .inl h).pres
end
end GA
namespace GA
open PySem PySem.Spec PyProof.Rows L2
/-! a comprehension whose element changes the object -/
def WP.compV {α : Type} (f : D → Option α) (y : Srt → α → WP (D × Srt)) : List D → Srt → WP (List D × Srt)
  | [], st => .ret ([], st)
  | d :: ds, st => (WP.opt (f d)).bind fun a => (y st a).noE.bind fun p => (WP.compV f y ds p.2).bind fun q => .ret (p.1 :: q.1, q.2)
def R.compV {α : Type} (f : D → Option α) (y : Srt → α → R (D × Srt)) : List D → Srt → R (List D × Srt)
  | [], st => .ok ([], st)
  | d :: ds, st => (R.ofO (f d)).bind fun a => (y st a).noE.bind fun p => (R.compV f y ds p.2).bind fun q => .ok (p.1 :: q.1, q.2)
theorem WP.lift_compV {α : Type} (f : D → Option α) (y : Srt → α → R (D × Srt)) : ∀ ds st, WP.lift (R.compV f y ds st) = WP.compV f (fun st a => .lift (y st a)) ds st
  | [], st => rfl
  | d :: ds, st => by simp only [R.compV, WP.compV, WP.lift_bind, WP.lift_noE, WP.lift_compV f y ds, WP.lift_ok]
def tOV (K : Nat → Addr) (c : C) (E : XK) (Γ : List Sl) (i : Nat) (sl : Srt → Sl) (m : WP (List D × Srt)) : TE := fun σ H Q => ∃ F, Ok K c F H σ Γ ∧ m.run (fun r => ∀ p vs F' H', Ok K c F' H' σ (Γ.set i (sl r.2)) → Ex F F' → H' p = none → RpAll K F' vs r.1 → Q (.ref p) (upd H' p (.lst vs))) (eK K E c)
/-- the context with one cell more that stands -/
def cF (c : C) (p : Addr) (ob : HO) : C := ⟨c.F0, upd c.H0 p ob, c.ex, c.rinv, c.rst⟩
section
variable {K : Nat → Addr} {F F' H H' : Hp} {c : C} {σ : L2.St} {Γ Γ' : List Sl} {p : Addr} {ob : HO}
theorem Ok.h0_none (o : Ok K c F H σ Γ) (hn : H p = none) : c.H0 p = none ∧ ¬ c.ex p ∧ F p = none := by
  have nx : ¬ c.ex p := fun z => o.bs.xh p z hn
  refine ⟨?_, nx, ex_none o.bs.fh hn⟩
  cases e : c.H0 p with
  | none => rfl
  | some u => rw [o.bs.h0 p u e nx] at hn; cases hn
theorem Ok.frame (o : Ok K c F H σ Γ) (hn : H p = none) : Ok K (cF c p ob) F (upd H p ob) σ Γ := by
  obtain ⟨n0, nx, fp⟩ := o.h0_none hn
  obtain ⟨π, x⟩ := o
  have ne : ∀ j a, a ∈ π j → a ≠ p := fun j a ha z => (x.fr j a ha).2.1 (z ▸ hn)
  have nex : ∀ a, c.ex a → a ≠ p := fun a ha z => nx (z ▸ ha)
  refine ⟨π, ⟨exT x.bs.fh (Evl.Ex.new hn), x.bs.f0, fun a u h n => ?_, fun a u h => ?_, x.bs.fx, fun a h => ?_, fun a h => ?_, ?_⟩, x.len, fun j s hj => ?_, fun j a ha => ?_, x.dj⟩
  · show upd H p ob a = some u
    by_cases z : a = p
    · subst z
      have h' : upd c.H0 a ob a = some u := h
      rw [upd_same] at h' ⊢
      exact h'
    · have h' : upd c.H0 p ob a = some u := h
      rw [upd_ne z] at h' ⊢
      exact x.bs.h0 a u h' n
  · show c.F0 a = some u ∨ upd c.H0 p ob a = none
    have z : a ≠ p := fun z => by subst z; rw [fp] at h; cases h
    rw [upd_ne z]
    exact x.bs.nw a u h
  · show upd c.H0 p ob a ≠ none
    rw [upd_ne (nex a h)]
    exact x.bs.hx a h
  · rw [upd_ne (nex a h)]; exact x.bs.xh a h
  · exact c.rst H _ (fun a h => upd_ne (nex a h)) x.bs.rv
  · obtain ⟨ov, k1, k2⟩ := x.sl j s hj
    exact ⟨ov, k1, sl_mono (exR F) (fun a ha => upd_ne (ne j a ha)) k2⟩
  · obtain ⟨g1, g2, g3⟩ := x.fr j a ha
    refine ⟨g1, by rw [upd_ne (ne j a ha)]; exact g2, ?_⟩
    show upd c.H0 p ob a = none
    rw [upd_ne (ne j a ha)]
    exact g3
theorem Ok.unframe (o : Ok K (cF c p ob) F H σ Γ) (n0 : c.H0 p = none) (f0 : c.F0 p = none) (nx : ¬ c.ex p) : Ok K c F (rm H p) σ Γ ∧ H p = some ob ∧ F p = none := by
  obtain ⟨π, x⟩ := o
  have hp : H p = some ob := x.bs.h0 p ob upd_same nx
  have fp : F p = none := by
    cases e : F p with
    | none => rfl
    | some u =>
      rcases x.bs.nw p u e with z | z
      · have z' : c.F0 p = some u := z
        rw [f0] at z'; cases z'
      · have z' : upd c.H0 p ob p = none := z
        rw [upd_same] at z'; cases z'
  have ne : ∀ j a, a ∈ π j → a ≠ p := fun j a ha z => by
    have h3 : upd c.H0 p ob a = none := (x.fr j a ha).2.2
    rw [z, upd_same] at h3; cases h3
  have nex : ∀ a, c.ex a → a ≠ p := fun a ha z => nx (z ▸ ha)
  refine ⟨⟨π, ⟨fun a u h => ?_, x.bs.f0, fun a u h n => ?_, fun a u h => ?_, x.bs.fx, fun a h => ?_, fun a h => ?_, ?_⟩, x.len, fun j s hj => ?_, fun j a ha => ?_, x.dj⟩, hp, fp⟩
  · have z : a ≠ p := fun z => by subst z; rw [fp] at h; cases h
    rw [rm_ne z]; exact x.bs.fh a u h
  · have z : a ≠ p := fun z => by subst z; rw [n0] at h; cases h
    rw [rm_ne z]
    exact x.bs.h0 a u (by show upd c.H0 p ob a = some u; rw [upd_ne z]; exact h) n
  · have z : a ≠ p := fun z => by subst z; rw [fp] at h; cases h
    rcases x.bs.nw a u h with q | q
    · exact .inl q
    · have q' : upd c.H0 p ob a = none := q
      rw [upd_ne z] at q'
      exact .inr q'
  · have h' : upd c.H0 p ob a ≠ none := x.bs.hx a h
    rw [upd_ne (nex a h)] at h'
    exact h'
  · rw [rm_ne (nex a h)]; exact x.bs.xh a h
  · exact c.rst H _ (fun a h => rm_ne (nex a h)) x.bs.rv
  · obtain ⟨ov, k1, k2⟩ := x.sl j s hj
    exact ⟨ov, k1, sl_mono (exR F) (fun a ha => rm_ne (ne j a ha)) k2⟩
  · obtain ⟨g1, g2, g3⟩ := x.fr j a ha
    refine ⟨g1, by rw [rm_ne (ne j a ha)]; exact g2, ?_⟩
    have g3' : upd c.H0 p ob a = none := g3
    rw [upd_ne (ne j a ha)] at g3'
    exact g3'
end
section
variable {X : Cx} {K : Nat → Addr} {c : C} {E : XK} {Γ Γ' : List Sl} {F F' H H' : Hp} {σ : L2.St} {pos : Pos} {e : Expr} {sl : Srt → Sl} {st : Srt}
theorem pts_noneV {α : Type} {Γf : α → List Sl} {cf : α → C} {X : Cx} : PTs X [] (fun σ H Q => ∃ a, tT K (cf a) E0 (Γf a) (.ret true) σ H Q) := pts_ex fun a => pts_none
theorem t_lcV {ms : WP (List D)} {i v : Nat} {y : Srt → D → WP (D × Srt)} {σ : L2.St} {H : Hp} {Q : VK} (hiv : i ≠ v) (hi : Γ[i]? = some (sl st)) (hv : Γ[v]? = some .non)
    (h : tOV K c E Γ i sl (ms.bind fun ds => WP.compV some y ds st) σ H Q) :
    tLc (tI K c E Γ ms) (fun x σ H Q => ∃ p : C × Srt, tG K p.1 ((Γ.set i (sl p.2)).set v .non) some (fun d => ((Γ.set i (sl p.2)).set v .non).set v (.imm d)) [v] x σ H Q)
      (fun σ H Q => ∃ p : C × Srt × D, tT K p.1 E0 ((Γ.set i (sl p.2.1)).set v (.imm p.2.2)) (.ret true) σ H Q) (fun σ H Q => ∃ p : C × Srt × D, tV K p.1 E0 ((Γ.set i (sl p.2.1)).set v (.imm p.2.2)) i sl (y p.2.1 p.2.2) σ H Q) [v] σ H Q := by
  obtain ⟨F, o, r⟩ := h
  have hil : i < Γ.length := (List.getElem?_eq_some_iff.mp hi).1
  have hvl : v < Γ.length := (List.getElem?_eq_some_iff.mp hv).1
  have setI : ∀ s, Γ.set i (sl s) = (Γ.set i (sl s)).set v .non := fun s => by
    refine List.ext_getElem? fun j => ?_
    by_cases q : v = j
    · subst q
      rw [List.getElem?_set_self (by simpa using hvl), List.getElem?_set_ne hiv, hv]
    · rw [List.getElem?_set_ne q]
  have e0 : Γ.set i (sl st) = Γ := by
    refine List.ext_getElem? fun j => ?_
    by_cases q : i = j
    · subst q; rw [List.getElem?_set_self hil, hi]
    · rw [List.getElem?_set_ne q]
  refine ⟨F, o, ms.mono _ _ _ _ (fun ds p J F1 H1 o1 g1 hl src Dl hD => ?_) (fun _ z => z) r⟩
  obtain ⟨GG, Y, w, hy⟩ := src
  obtain ⟨n0, nx, _⟩ := o1.h0_none hD
  have f00 : c.F0 Dl = none := by
    cases e : c.F0 Dl with
    | none => rfl
    | some u => have := o1.bs.fh Dl u (o1.bs.f0 Dl u e); rw [hD] at this; cases this
  refine lc_it w (g := fun x σ H Q => ∃ p : C × Srt, tG K p.1 ((Γ.set i (sl p.2)).set v .non) some (fun d => ((Γ.set i (sl p.2)).set v .non).set v (.imm d)) [v] x σ H Q) (tt := fun σ H Q => ∃ p : C × Srt × D, tT K p.1 E0 ((Γ.set i (sl p.2.1)).set v (.imm p.2.2)) (.ret true) σ H Q) (te := fun σ H Q => ∃ p : C × Srt × D, tV K p.1 E0 ((Γ.set i (sl p.2.1)).set v (.imm p.2.2)) i sl (y p.2.1 p.2.2) σ H Q) (vs := [v]) (σ := σ) (H1 := H1) (D := Dl) (Qd := fun H => Q (.ref Dl) H)
    (fun j H' => ∃ F' H'' acc accD s, Ok K c F' H'' σ (Γ.set i (sl s)) ∧ Ex F1 F' ∧ H'' Dl = none ∧ H' = upd H'' Dl (.lst acc) ∧ RpAll K F' acc accD ∧ acc.length ≤ j ∧
    (WP.compV some y (ds.drop j) s).run (fun r => ∀ p vs F' H', Ok K c F' H' σ (Γ.set i (sl r.2)) → Ex F F' → H' p = none → RpAll K F' vs (accD ++ r.1) → Q (.ref p) (upd H' p (.lst vs))) (eK K E c)) ?_ ?_ ?_ ?_
  · exact ⟨F1, H1, [], [], st, by rw [e0]; exact o1, exR F1, hD, rfl, .nil, Nat.zero_le _, by simpa using p⟩
  · rintro j H' hj ⟨F', H'', acc, accD, s, o', e', hn, rfl, ra, hle, rr⟩
    exact (hy F' _ e' (exT o'.bs.fh (Evl.Ex.new hn))).1
  · rintro j x H' H2 hj ⟨F', H'', acc, accD, s, o', e', hn, rfl, ra, hle, rr⟩ hY
    have ef : Ex F' (upd H'' Dl (.lst acc)) := exT o'.bs.fh (Evl.Ex.new hn)
    obtain ⟨d, hd, yd⟩ := (hy F' _ e' ef).2 j x H2 hj hY
    have oU : Ok K (cF c Dl (.lst acc)) F' (upd H'' Dl (.lst acc)) σ (Γ.set i (sl s)) := o'.frame hn
    obtain ⟨F2, o2, g2, rp⟩ := yd.ok (oU.wipe [v])
    rw [drop_get hd] at rr
    change ((y s d).noE.bind fun p => (WP.compV some y (ds.drop (j + 1)) p.2).bind fun q => .ret (p.1 :: q.1, q.2)).run _ _ at rr
    refine ⟨(cF c Dl (.lst acc), s), F2, d, d, o2, rp, rfl, fun σ2 ok2 hw => ⟨by rw [hw, wipe_idem], ?_⟩⟩
    replace ok2 : Ok K (cF c Dl (.lst acc)) F2 H2 σ2 (((Γ.set i (sl s)).set v .non).set v (.imm d)) := ok2
    rw [List.set_set] at ok2
    refine ⟨(cF c Dl (.lst acc), s, d), F2, ok2, ?_⟩
    intro F3 H3 o3 g3
    show ∃ p : C × Srt × D, _
    refine ⟨(cF c Dl (.lst acc), s, d), F3, o3, (y s d).mono _ _ _ _ (fun z rr w F4 H4 o4 e4 rz => ?_) (fun _ z => z.elim) rr⟩
    have eqs : ((Γ.set i (sl s)).set v (.imm d)).set i (sl z.2) = (Γ.set i (sl z.2)).set v (.imm d) := by
      rw [List.set_comm _ _ (Ne.symm hiv), List.set_set]
    replace o4 : Ok K (cF c Dl (.lst acc)) F4 H4 σ2 (((Γ.set i (sl s)).set v (.imm d)).set i (sl z.2)) := o4
    rw [eqs] at o4
    have hvσ : v < σ.length := by
      obtain ⟨π, q⟩ := o1
      rw [q.len]; exact hvl
    have o5 := o4.setN (i := v) (v := σ[v])
    rw [List.set_set, ← setI] at o5
    have es : σ2.set v σ[v] = σ := by
      have hw' : σ2.set v none = (σ.set v none) := by
        have : wipe σ2 [v] = wipe (wipe σ [v]) [v] := hw
        rw [wipe_idem] at this
        exact this
      have := congrArg (fun l => l.set v σ[v]) hw'
      simp only [List.set_set] at this
      rw [this]
      exact set_self (List.getElem?_eq_getElem hvσ)
    rw [es] at o5
    obtain ⟨k1, k3, k4⟩ := o5.unframe n0 f00 nx
    refine ⟨acc, k3, Nat.lt_of_le_of_lt hle (Nat.lt_of_lt_of_le hj hl), F4, rm H4 Dl, acc ++ [w], accD ++ [z.1], z.2, k1, exT e' (exT g2.f (exT g3.f e4)), rm_same, ?_, dps_append (dps_mono (exT g2.f (exT g3.f e4)) ra) (.cons rz .nil), by simp; omega, ?_⟩
    · rw [← upd_rm k3, upd_upd, upd_rm k3]
    · exact (WP.compV some y _ _).mono _ _ _ _ (fun r q p vs F5 H5 o5 g5 hp r5 => q p vs F5 H5 o5 g5 hp (by simpa using r5)) (fun _ z => z) rr
  · rintro H' ⟨F', H'', acc, accD, s, o', e', hn, rfl, ra, hle, rr⟩
    rw [List.drop_of_length_le (Nat.le_refl _)] at rr
    exact rr Dl acc F' H'' o' (exT g1.f e') hn (by simpa using ra)
variable {tg iter elt : Expr} {scope : Scope} {own : List (Str × Nat)} {ms : WP (List D)} {i : Nat}
theorem o_lcV (v : Nat) {x : Str} {y : Srt → D → WP (D × Srt)} (hiv : i ≠ v) (hsl : Γ[i]? = some (sl st)) (hv : Γ[v]? = some .non) (hc : X.calm = true) (hN : X.N.Nodup) (hi : PI X tg iter (tI K c E Γ ms)) (hown : own = [(x, v)]) (ok : blkC X.N X.env.scope scope own = true)
    (hg : ∀ (c : C) (Γ : List Sl) (s : Shared) (H : Hp) (C : Addr) (cl : List (Str × Addr)) (fp : List Addr), PG (X.blk s H scope (compEnvC scope cl C X.env) fp) tg (tG K c Γ some (fun d => Γ.set v (.imm d)) [v]))
    (he : ∀ (c : C) (s : Shared) (H : Hp) (C : Addr) (cl : List (Str × Addr)) (fp : List Addr) (st : Srt) (a : D), PE (X.blk s H scope (compEnvC scope cl C X.env) fp) elt (tV K c E0 ((Γ.set i (sl st)).set v (.imm a)) i sl (y st a)))
    (hs : ∀ x, foldedSetIterable iter X.env x = pure x := by intro _; rfl) : PE X (.ListComp elt [⟨tg, iter, [], 0⟩] scope pos) (tOV K c E Γ i sl (ms.bind fun ds => WP.compV some y ds st)) := by
  subst hown
  exact pe_weak (pe_lc hc hN hi (blkOk_by ok) (fun s H C cl fp => pg_ex (α := _root_.Prod GA.C Srt) fun p => hg p.1 _ s H C cl fp) (fun s H C cl fp => pts_noneV (α := GA.C × Srt × D) (cf := fun p => p.1)) (fun s H C cl fp => pe_ex fun p => he p.1 s H C cl fp p.2.1 p.2.2) hs) fun σ H Q h => t_lcV hiv hsl hv h
theorem e_frzV {m : WP (List D × Srt)} (h : PE X e (tOV K c E Γ i sl m)) : PE X e (tV K c E Γ i sl (m.bind fun r => .ret (.list r.1, r.2))) :=
  pe_weak h fun σ H Q ⟨F, o, r⟩ => ⟨F, o, m.mono _ _ _ _ (fun r q p vs F' H' o' ef hn x => q _ (upd F' p (.lst vs)) _ (o'.alloc hn) (exT ef (Evl.Ex.new (ex_none o'.bs.fh hn))) (.lst upd_same (dps_mono (Evl.Ex.new (ex_none o'.bs.fh hn)) x))) (fun _ z => z) r⟩
end
end GA
namespace GA
open PySem PySem.Spec PyProof.Rows L2
/-! len(s) by the object's own __len__ -/
theorem call_lenS {X : Cx} {CX : CXT} {k : Nat} {f C : Addr} {fd : FuncData} {ps : List Str} {sp : Sp} {E : XK} (hm : Meth X.K C "__len__" f) (F : FnOk X.prog X.w X.K X.mg X.base CX k f fd ps sp) (hr : Room (k + 1) X.A) (hb : Binds X.K fd ps []) (hx : Passes CX X E) :
    CallR X (.builtin "len") (fun xs H Q => ∃ a dx fs, xs = [.ref a] ∧ H a = some (.ins C dx fs) ∧ sp [.ref a] H (fun v H' => ∃ n : Int, v = .int n ∧ 0 ≤ n ∧ n < 2 ^ 63 ∧ Q (.int n) H') E) := by
  intro pins s σ H xs us Q I r h
  obtain ⟨a, dx, fs, rfl, e, q⟩ := h
  rw [Vals.ref1 r]
  obtain ⟨mA, O, _, _, _, _⟩ := ins_get I.hok e
  obtain ⟨od, J, _⟩ := O.look
  have hl : ([.ref a] : List Value).length = ps.length := F.len [.ref a] H _ E q
  have b := hb s [.ref a] I.kIn (by rw [List.append_nil]; exact hl)
  rw [List.append_nil] at b
  refine Calls.call_function_entry kind_len plain_len entry_len (args_len1 _) ?_
  unfold Builtin.«len»
  refine wpAny_bind (m := oneArg "len" _) (wpAny_pure ?_)
  refine wpAny_bind (m := callSpecial? (.ref a) (Str.ofString "__len__")) (PySem.W.special_fn I.kIn J hm.at_ (beq_iff_eq.mp hm.fn) ?_)
  refine wpAny_mono (Q := fun r s' => ∃ n u H', r = Value.int n u ∧ 0 ≤ n ∧ n < 2 ^ 63 ∧ Inv X pins σ H' s' ∧ Q (.int n) H') (wpAny_call (codeAny_mono (F.run X.A.in1 X.stack s H ⟨[.ref a], []⟩ [.ref a] [.ref a] _ E hr.in1 I.env0.in1 b (.cons rfl .nil) q) fun r s' hq => ?_)) (fun r s' hr' => ?_) fun _ _ z => z
  · cases r with
    | error e => exact hx pins σ H s e s' I hq
    | ok fl =>
      cases fl with
      | ret u =>
        obtain ⟨v, H', I', rv, n, rfl, n0, n1, q⟩ := I.after hq
        obtain ⟨t, rfl⟩ := rv
        exact ⟨n, t, H', rfl, n0, n1, I', q⟩
      | next => exact False.elim hq
      | brk => exact False.elim hq
      | cont => exact False.elim hq
  · obtain ⟨n, u, H', rfl, h0, h1, I', hq⟩ := hr'
    refine wpAny_bind (wpAny_holding (wpAny_pure ?_))
    refine wpAny_bind (wpAny_letGo ?_)
    show wpAny _ _ (if n < 0 then _ else _) _ _ _
    rw [if_neg (by omega)]
    show wpAny _ _ (if n ≥ 2 ^ 63 then _ else _) _ _ _
    rw [if_neg (by omega)]
    exact wpAny_bind (wpAny_mkInt (wpAny_pure ⟨_, rfl, .int n, H', I'.tok _, ⟨_, rfl⟩, hq⟩))
section
variable {X : Cx} {K : Nat → Addr} {c : C} {E : XK} {Γ Γ' : List Sl} {F F' H H' : Hp} {σ : L2.St} {pos : Pos} {st : Srt}
/-- what a __len__ may answer -/
def dLenI : D → Option D
  | .int n => if 0 ≤ n ∧ n < 2 ^ 63 then some (.int n) else none
  | _ => none
theorem e_lenS (i : Nat) {s : Str} {p p2 : Pos} {CX : CXT} {k : Nat} {f : Addr} {fd : FuncData} {ps : List Str} {g : Srt → WP D} (hs : HasSr K c Γ i st) (hm : Meth X.K (K 6) "__len__" f) (G : FnOk X.prog X.w X.K X.mg X.base CX k f fd ps (spRd K g)) (hr : Room (k + 1) X.A) (hb : Binds X.K fd ps []) (hx : Passes CX X E)
    (hg : Gl X "len") (hmg : X.mg "len" = none) (hN : X.N[i]? = some s) (hv : Vis X.env.scope s) (hd : (s == ("__debug__" : Str)) = false := by decide) (hcd : (s == ("__classdict__" : Str)) = false := by decide)
    (he : starEach (.Name s p2 :: []) X.env = (false, eval (.Name s p2) X.env) :: starEach [] X.env := by rfl) (hpl : (backTo pos (starEach [] X.env)).any (·.1) = false := by rfl) :
    PE X (.Call (.Name "len" p) [.Name s p2] [] pos) (tW K c E Γ ((g st).bind fun d => .opt (dLenI d))) :=
  pe_weak (pe_callB (call_lenS hm G hr hb hx) hg hmg bt_len (pa_cons (pe_var hN hv hd hcd) pa_nil he) (by decide) (by decide) he hpl) fun σ H Q ⟨F, o, r⟩ => by
    obtain ⟨x, dx, pa, h1, n⟩ := hs F H σ o
    obtain ⟨nn, lv, pvs, k1, k2, k3, k4, k5⟩ := n.at_
    refine ⟨_, h1, x, dx, _, rfl, k1, F, x, dx, pa, st, rfl, n.at_, n.f, o.bs.fh, (g st).mono _ _ _ _ (fun d q v F' H' eh ef efh nw rp => ?_) (fun k p H' eh => ?_) r⟩
    · obtain ⟨z, hz, q⟩ := WP.opt_run q
      cases d <;> simp only [dLenI] at hz <;> try cases hz
      rename_i m
      split at hz <;> cases hz
      rename_i hm
      cases rp
      exact ⟨m, rfl, hm.1, hm.2, q _ F' H' (o.grow eh ef efh nw) ⟨ef, fun a u h _ => eh a u h, fun a u h _ => nw a u h⟩ (.int _)⟩
    · exact p H' (o.grow eh (exR F) (exT o.bs.fh eh) fun a u h => .inl h).pres
/-- s, y, z = (C(), [], []) -/
theorem s_new3 (i j l : Nat) {s y z x : Str} {p pos2 px py pz pt pt2 q1 q2 : Pos} {kt k2 : Nat} {f : Addr} {fd : FuncData} {ps : List Str} {k : Nat} (M : Mk X.K (K 6) f) (G : FnOk X.prog X.w X.K X.mg X.base CX0 k f fd ps (spNew K)) (hr : Room (k + 1) X.A) (hg : Gl X x) (hm : X.mg x = some (.ref (K 6))) (hb : Binds X.K fd ps []) (hpx : Passes CX0 X E0)
    (hc : X.calm = true) (hN : X.N.Nodup) (hi : X.N[i]? = some s) (hj : X.N[j]? = some y) (hl : X.N[l]? = some z) (hij : i ≠ j) (hil : i ≠ l) (hjl : j ≠ l)
    (hx : X.env.scope.names.lookup s = some .local) (hy : X.env.scope.names.lookup y = some .local) (hz : X.env.scope.names.lookup z = some .local) (hdb : (x == ("__debug__" : Str)) = false := by decide)
    (hw : swappedStores [.Tuple [.Name s px, .Name y py, .Name z pz] kt pt] (.Tuple [.Call (.Name x p) [] [] pos2, .List [] q1, .List [] q2] k2 pt2) X.env = pure (some [s, y, z]) := by rfl)
    (hs : swapsWithSole [.Tuple [.Name s px, .Name y py, .Name z pz] kt pt] (.Tuple [.Call (.Name x p) [] [] pos2, .List [] q1, .List [] q2] k2 pt2) pos.line X.env = pure false := by rfl)
    (h1 : starEach (.Call (.Name x p) [] [] pos2 :: [.List [] q1, .List [] q2]) X.env = (false, eval (.Call (.Name x p) [] [] pos2) X.env) :: starEach [.List [] q1, .List [] q2] X.env := by rfl) (h2 : starEach (.List [] q1 :: [.List [] q2]) X.env = (false, eval (.List [] q1) X.env) :: starEach [.List [] q2] X.env := by rfl) (h3 : starEach (.List [] q2 :: []) X.env = (false, eval (.List [] q2) X.env) :: starEach [] X.env := by rfl) :
    PS X (.Assign [.Tuple [.Name s px, .Name y py, .Name z pz] kt pt] (.Tuple [.Call (.Name x p) [] [] pos2, .List [] q1, .List [] q2] k2 pt2) pos) (tX K c E Γ (.ret (⟨[], []⟩ : Srt)) fun st => ((Γ.set i (srt K st)).set j (.imm (.list []))).set l (.imm (.list []))) :=
  ps_weak (ps_par3 hc hN hi hj hl hij hil hjl hx hy hz (pa_cons (pe_make0 M G hr hg hm hb .nil hpx hdb) (pa_cons (pe_lst pa_nil) (pa_cons (pe_lst pa_nil) pa_nil h3) h2) h1) hw hs) fun D σ H ⟨F, o, r⟩ => by
    intro x dx nx ndx n1
    show spNew K ([.ref x] ++ ([] ++ [])) _ _ _
    refine sp_new nx ndx n1 fun H' la pa hl hp nl a1 a3 a2 a4 eh e1 e2 e3 e4 => ⟨rfl, ?_⟩
    have o1 := o.made (i := i) nx ndx n1 hl hp nl a1 a3 a2 a4 eh e1 e2 e3 e4
    have x1 : Ex F (upd F la (.lst [])) := Evl.Ex.new (ex_none o.bs.fh hl)
    refine ⟨Nat.zero_le _, fun p1 hp1 => ?_⟩
    have o2 := o1.alloc (o := .lst []) hp1
    have x2 : Ex (upd F la (.lst [])) (upd (upd F la (.lst [])) p1 (.lst [])) := Evl.Ex.new (ex_none o1.bs.fh hp1)
    refine ⟨Nat.zero_le _, fun p2 hp2 => ?_⟩
    have o3 := o2.alloc (o := .lst []) hp2
    have x3 : Ex (upd (upd F la (.lst [])) p1 (.lst [])) (upd (upd (upd F la (.lst [])) p1 (.lst [])) p2 (.lst [])) := Evl.Ex.new (ex_none o2.bs.fh hp2)
    refine ⟨_, _, _, rfl, r _ _ _ ((o3.set (i := j) (dp_mono x3 (.lst upd_same .nil))).set (i := l) (.lst upd_same .nil)) (exT x1 (exT x2 x3))⟩
end
end GA
namespace GA
open PySem PySem.Spec PyProof.Rows L2
/-! f(draws, xs), xs a list of one's own that is lent: the answer is flat -/
def dFlatO (d : D) : Option D := if dFlat d = true then some d else none
theorem dFlatO_some {d z : D} (h : dFlatO d = some z) : z = d ∧ dFlat d = true := by
  unfold dFlatO at h
  split at h
  · cases h; exact ⟨rfl, by assumption⟩
  · cases h
theorem rp_flat {K : Nat → Addr} {F F' : Hp} {v : V} {d : D} (h : Rp K F v d) (hd : dFlat d = true) : Rp K F' v d := by
  cases h with
  | non => exact .non
  | bl b => exact .bl b
  | int i => exact .int i
  | str x => exact .str x
  | lst _ _ => cases hd
  | tup _ _ => cases hd
  | exc _ _ => cases hd
section
variable {X : Cx} {K : Nat → Addr} {c : C} {E : XK} {Γ Γ' : List Sl} {F F' H H' : Hp} {σ : L2.St} {pos : Pos}
theorem e_callDB {CX : CXT} {k : Nat} {f : Addr} {fd : FuncData} {ps : List Str} {x y z : Str} {p p2 p3 : Pos} {fW : List D → WP D} {a b : Addr} {ds : List D} (i j : Nat) (dr : IsDr c a b) (G : FnOk X.prog X.w X.K X.mg X.base CX k f fd ps (spD K 1 fW)) (hr : Room k X.A) (hg : Gl X x) (hm : X.mg x = some (.ref f)) (hk : PySem.W.keepIn X.K (.ref f) = true) (hb : Binds X.K fd ps []) (hx : Passes CX X E)
    (hN : X.N[i]? = some y) (hv : Vis X.env.scope y) (hi : Γ[i]? = some (.val (.ref a))) (hNj : X.N[j]? = some z) (hvj : Vis X.env.scope z) (hj : Γ[j]? = some (own K ds)) (hd : (y == ("__debug__" : Str)) = false := by decide) (hcd : (y == ("__classdict__" : Str)) = false := by decide) (hd2 : (z == ("__debug__" : Str)) = false := by decide) (hcd2 : (z == ("__classdict__" : Str)) = false := by decide)
    (hdb : (x == ("__debug__" : Str)) = false := by decide) (he : starEach (.Name y p2 :: [.Name z p3]) X.env = (false, eval (.Name y p2) X.env) :: starEach [.Name z p3] X.env := by rfl) (he2 : starEach (.Name z p3 :: []) X.env = (false, eval (.Name z p3) X.env) :: starEach [] X.env := by rfl) (hpl : (backTo pos (starEach [.Name z p3] X.env)).any (·.1) = false := by rfl) :
    PE X (.Call (.Name x p) [.Name y p2, .Name z p3] [] pos) (tW K c E Γ ((fW [.list ds]).bind fun d => .opt (dFlatO d))) :=
  pe_weak (pe_call G hr hg hm hk hb .nil hx (pa_cons (pe_var hN hv hd hcd) (pa_cons (pe_var hNj hvj hd2 hcd2) pa_nil he2) he) hdb he hpl) fun σ H Q ⟨F, o, r⟩ => by
    obtain ⟨π, x0⟩ := id o
    obtain ⟨ov, h1, h2⟩ := x0.sl i _ hi
    obtain ⟨q, vs, g1, g2, g3, g4⟩ := o.own_at hj
    have xa : c.ex a := (dr.ex a).mpr (.inl rfl)
    have xb : c.ex b := (dr.ex b).mpr (.inr rfl)
    have qa : q ≠ a := fun z => g4 (z ▸ xa)
    have qb : q ≠ b := fun z => g4 (z ▸ xb)
    have fq : F q = none := by
      obtain ⟨ov', k1, v', k2, a', vs', k3, k4, _⟩ := x0.sl j _ hj
      rw [g1] at k1
      cases k1
      cases k2
      cases k3
      exact (x0.fr j q (by rw [k4]; exact List.mem_singleton.mpr rfl)).1
    have nx : ∀ p, ¬ c.ex p → p ≠ a ∧ p ≠ b := fun p h => ⟨fun e => h ((dr.ex p).mpr (.inl e)), fun e => h ((dr.ex p).mpr (.inr e))⟩
    have there : ∀ H', DrOk H' a b → ∀ p, c.ex p → H' p ≠ none := fun H' ⟨_, ns, n, k1, k2, _⟩ p hp => by
      rcases (dr.ex p).mp hp with rfl | rfl
      · rw [k1]; exact fun z => by cases z
      · rw [k2]; exact fun z => by cases z
    refine ⟨.ref a, h1.trans (by rw [h2]), .ref q, g1, ?_⟩
    show spD K 1 fW ((.ref a :: [.ref q]) ++ []) H Q E
    rw [List.append_nil]
    have ef : Ex F (upd F q (.lst vs)) := Evl.Ex.new fq
    have efh : Ex (upd F q (.lst vs)) H := fun p u hp => by
      by_cases z : p = q
      · subst z; rw [upd_same] at hp; cases hp; exact g2
      · rw [upd_ne z] at hp; exact o.bs.fh p u hp
    refine ⟨upd F q (.lst vs), [.list ds], a, b, [.ref q], rfl, (dr.ri H).mp o.bs.rv, by rw [upd_ne (Ne.symm qa)]; exact o.bs.fx a xa, by rw [upd_ne (Ne.symm qb)]; exact o.bs.fx b xb, efh, .cons (.lst upd_same (dps_mono ef g3)) .nil, rfl, (fW [.list ds]).mono _ _ _ _ (fun d r1 v F' H' eh dk ef' efh' nw rp => ?_) (fun k r1 H' eh dk => ?_) r⟩
    · obtain ⟨z, hz, r2⟩ := WP.opt_run r1
      obtain ⟨ez, hfl⟩ := dFlatO_some hz
      rw [ez] at r2
      have eh' : ∀ p o, H p = some o → ¬ c.ex p → H' p = some o := fun p o h n => eh p o h (nx p n).1 (nx p n).2
      exact r2 v F H' (o.step eh' (there H' dk) ((dr.ri H').mpr dk) (exR F) (exT ef (exT ef' efh')) fun p u h => .inl h) ⟨exR F, eh', fun p u h _ => .inl h⟩ (rp_flat rp hfl)
    · have eh' : ∀ p o, H p = some o → ¬ c.ex p → H' p = some o := fun p o h n => eh p o h (nx p n).1 (nx p n).2
      exact r1 H' ⟨fun p o' h n => eh' p o' (o.bs.h0 p o' h n) n, there H' dk, (dr.ri H').mpr dk⟩
variable {e e2 tg : Expr} {ms : WP (List D)}
theorem i_zipL {p tpos : Pos} {elts : List Expr} {kk : Nat} (hg : Gl X "zip") (hm : X.mg "zip" = none) (ha : PL X K c E Γ [e, e2] ms)
    (hs : starEach [e, e2] X.env = (false, eval e X.env) :: starEach [e2] X.env := by rfl) (hpl : (backTo pos (starEach [e2] X.env)).any (·.1) = false := by rfl) :
    PI X (.Tuple elts kk tpos) (.Call (.Name "zip" p) [e, e2] [] pos) (tI K c E Γ (ms.bind fun d => .opt (dZip d))) := i_zip hg hm ha.pa hs hpl
end
end GA
namespace GA
open PySem PySem.Spec PyProof.Rows L2
/-! int(text), a text walked, text.split(sep), try .. except without a name -/
def dIntS : List D → Option D
  | [.str a] => if a.length ≤ 640 then (intText? a).map PyData.int else none
  | _ => none
def dChars : D → Option (List D)
  | .str z => if z.cps.size ≤ LIM then some (z.cps.toList.map fun c => .str ⟨#[c]⟩) else none
  | _ => none
def dSplit (a : Str) : D → Option (List D)
  | .str b => if (b.length == 0) = false ∧ a.length + 2 ≤ LIM then some ((Txt.split a b).map PyData.str) else none
  | _ => none
section
variable {X : Cx} {K : Nat → Addr} {c : C} {E : XK} {Γ : List Sl} {F F' H H' : Hp} {σ : L2.St} {pos : Pos} {e : Expr} {m : WP D}
theorem RdOk.strV {v : V} {x : Str} (h : RdOk K c F H v (.str x)) : v = .str x := by
  rcases h with h | ⟨_, _, _, _, e, _⟩
  · cases h; rfl
  · cases e
theorem cd_int : CallD K (fun xs H Q => ∃ a n, xs = [.str a] ∧ PySem.intText? a = some n ∧ a.length ≤ 640 ∧ Q (.int n) H) dIntS := by
  intro c Γ σ F H vs ds z Q o hx hf q
  unfold dIntS at hf
  split at hf
  · rename_i a
    split at hf
    · rename_i hl
      obtain ⟨n, hn, rfl⟩ := Option.map_eq_some_iff.mp hf
      cases hx with
      | cons h t =>
        cases t
        exact ⟨a, n, by rw [h.strV], hn, hl, q _ F H o .refl (.int _)⟩
    · cases hf
  · cases hf
theorem j_text {tg : Expr} (h : PE X e (tW K c E Γ m)) : PI X tg e (tJ K c E Γ (m.bind fun d => .opt (dChars d))) := pi_weak (pi_str h) fun σ H R ⟨F, o, r⟩ => by
  refine ⟨F, o, m.mono _ _ _ _ (fun d p v F1 H1 o1 g1 x1 => ?_) (fun _ z => z) r⟩
  obtain ⟨ds, hd, p⟩ := WP.opt_run p
  cases d <;> simp only [dChars] at hd <;> try cases hd
  rename_i z
  split at hd <;> cases hd
  rename_i hl
  cases x1
  have hk : z.cps.size = (z.cps.toList.map fun c => PyData.str ⟨#[c]⟩).length := by rw [List.length_map, Array.length_toList]
  have hw := walk_str (z := z)
  rw [hk] at hw
  refine ⟨z, rfl, p _ F1 H1 o1 g1 (by rw [← hk]; exact lim_le hl) ⟨_, _, hw, fun F2 H2 e2 e3 => ⟨trivial, fun i x H3 _ y => ?_⟩⟩⟩
  obtain ⟨rfl, cc, hc, rfl⟩ := y
  refine ⟨.str ⟨#[cc]⟩, ?_, .inl ⟨rfl, .str _⟩⟩
  rw [List.getElem?_map, Array.getElem?_toList, hc]
  rfl
theorem o_split {o : Expr} {mo : WP D} {apos : Pos} (ho : PE X o (tW K c E Γ mo)) (he : PE X e (tW K c E Γ m))
    (hs : starEach [e] X.env = [(false, eval e X.env)] := by rfl) (hbase : attributeBase o "split" X.env (eval o X.env) = eval o X.env := by rfl) (hline : (apos.endLine == pos.line) = true := by rfl) :
    PE X (.Call (.Attribute o "split" apos) [e] [] pos) (tO K c E Γ (mo.bind fun x => (WP.opt (dStr x)).bind fun s => m.bind fun d => .opt (dSplit s d))) :=
  pe_weak (pe_split ho he hs hbase hline) fun σ H Q ⟨F, o, r⟩ => by
    refine ⟨F, o, mo.mono _ _ _ _ (fun d r1 v F1 H1 o1 g1 x1 => ?_) (fun _ z => z) r⟩
    obtain ⟨s, hs, r1⟩ := WP.opt_run r1
    cases d <;> simp only [dStr] at hs <;> try cases hs
    cases x1
    refine ⟨⟨_, rfl⟩, F1, o1, m.mono _ _ _ _ (fun d r2 w F2 H2 o2 g2 x2 => ?_) (fun _ z => z) r1⟩
    obtain ⟨z, hz, r3⟩ := WP.opt_run r2
    cases d <;> simp only [dSplit] at hz <;> try cases hz
    rename_i b
    split at hz <;> cases hz
    rename_i hl
    cases x2
    refine ⟨s, b, rfl, rfl, hl.1, lim_le hl.2, fun p hp => ?_⟩
    refine r3 p _ F2 H2 o2 (g1.trans g2) hp ?_
    have : ∀ l : List Str, RpAll K F2 (l.map V.str) (l.map PyData.str) := fun l => by
      induction l with
      | nil => exact .nil
      | cons x xs ih => exact .cons (.str _) ih
    exact this _
end
section
variable {X : Cx} {K : Nat → Addr} {c : C} {W : WX} {Γ Γ' : List Sl} {F F' H H' : Hp} {σ : L2.St} {pos : Pos} {α β : Type}
/-- try: BODY except X: y = None -/
theorem s_tryN (j : Nat) {E : XK} {x y : Str} {C : Addr} {G : α → List Sl} {m : WP α} {fin : α → β} {fer : Nat → β} {G' : β → List Sl} {np py pos' pa : Pos} {body : List Stmt} {kp : Pos} {kk : Nat} (hs : X.stack = X.env :: X.outer) (hf : X.env.frame = some X.env.locals) (hN : X.N.Nodup) (hj : X.N[j]? = some y) (hly : X.env.kindOf y = some .local)
    (hgx : Gl X x) (hmx : X.mg x = some (.ref C)) (hexm : ∀ k, k < 5 → PySem.W.exmOne X.K (.ref (K k)) (.ref C) = some true)
    (hb : ∀ (W : WX) (pn : List (Addr × Obj)) (xe : Value → Shared → Prop), Takes (X.tr pn xe) W → PSs (X.tr pn xe) body (tXT K c W Γ m G))
    (l1 : ∀ a, Le (G a) (G' (fin a))) (l2 : ∀ k, Le (Γ.set j (.imm .none)) (G' (fer k)))
    (hdx : (x == ("__debug__" : Str)) = false := by decide)
    (hsw : ∀ (a : Addr) (pn : List (Addr × Obj)), swapsWith (.Constant .none kk kp) (some (.Name y py)) pa.line (X.suite a pn).env = pure false := by intros; rfl) :
    PS X (.Try body [.ExceptHandler (some (.Name x np)) none [.Assign [.Name y py] (.Constant .none kk kp) pa] pos'] [] [] pos) (tX K c E Γ (m.tryc fin fer) G') := by
  refine ps_weak (ps_try_only (c := .ref C) (tb := fun W => tXT K c W Γ m G) (ts := fun _ _ _ => tAsg (tC .non) (gName j)) (Wout := fun _ _ _ _ => False) hs hf ⟨hgx, hdx, .inl hmx⟩ (fun u s' ⟨_, _, _, _, _, _, _, _, _, _, _, _, _, _, _, _, w⟩ => w.elim) (fun W pn xe tk _ => hb W pn xe tk) (fun a oe cls d pn _ _ => pss_one (ps_set (X := X.suite a ((a, oe) :: pn)) (i := j) hN hj (.inl hly) pe_non (hsw a _) (.inr hly)))) fun D σ H ⟨F, o, r⟩ => ?_
  refine ⟨F, o, m.mono _ _ _ _ (fun a p σ' F' H' o' e => p σ' F' H' (o'.le (l1 a)) e) (fun k ⟨hk, p⟩ F' H' o' e => ⟨true, hexm k hk, fun _ a na => ?_, fun z => nomatch z⟩) r⟩
  exact p _ _ _ ((o'.set (i := j) Rp.non).le (l2 k)) e
end
end GA
namespace GD
open PySem GA
def d_law_pick : List D → WP D
  | [v_choices] => (((WP.opt (dLen (v_choices :: []))).bind fun d4 => WP.ret (d4 :: [])).bind wDraw).bind fun x7 => WP.opt (dAt v_choices x7)
  | _ => .lift .bad
def d_law_numbered : List D → R D
  | [v_labels] => ((((R.ofO (dLen (v_labels :: []))).bind fun d6 => R.ok (d6 :: [])).bind fun ds8 => R.ofO (dRange1 ds8)).bind fun ds36 => R.fold some (fun (p2 : List D) (a9 : D) => ((R.ofO (dList v_labels)).bind fun ds14 => (R.ofO (dAt v_labels a9)).bind fun x15 => R.ofO (dIndex ds14 x15)).bind fun v_first10 => ((((R.ofO (dLt v_first10 a9)).bind fun x16 => R.ofO (dBool x16)).bind fun b33 => if b33 = true then R.ofO (dAt (.list p2) v_first10) else ((((((R.ofO (dSub (.int 0) (.int 1))).bind fun d23 => R.ok (d23 :: [])).bind fun ds25 => R.ok (.list ds25)).bind fun x26 => R.ofO (dAdd x26 (.list p2))).bind fun d28 => R.ok (d28 :: [])).bind fun ds30 => R.ofO (dMax ds30)).bind fun x31 => R.ofO (dAdd x31 (.int 1))).bind fun x35 => R.ofO (dPush (p2) x35)).bind fun v_found34 => R.ok v_found34) ds36 []).bind fun p2 => R.ok (.list p2)
  | _ => .bad
def d_law_grouping : List D → WP D
  | [v_size] => ((WP.ret ((.list ((.int 2) :: ((.int 3) :: ((.int 7) :: [])))) :: [])).bind d_law_pick).bind fun v_wide1 => ((((WP.opt (dRange1 (v_size :: []))).bind fun ds17 => WP.comp some (fun _ => WP.ret true) (fun a14 => (WP.ret (v_wide1 :: [])).bind wDraw) ds17).bind fun ds18 => WP.ret (.list ds18)).bind fun d19 => WP.ret (d19 :: [])).bind (fun ds => WP.lift (d_law_numbered ds))
  | _ => .lift .bad
def d_law_error : List D → R D
  | [v_caught] => (((R.ofO (dIsX 0 v_caught)).bind fun d9 => ((R.ofO (dIsX 1 v_caught)).bind fun d7 => ((R.ofO (dIsX 2 v_caught)).bind fun d5 => R.ok (d5 :: [])).bind fun ds8 => R.ok (d7 :: ds8)).bind fun ds10 => R.ok (d9 :: ds10)).bind fun ds11 => R.ok (.list ds11)).bind fun v_kinds1 => ((((R.ofO (dIsX 3 v_caught)).bind fun d17 => ((R.ofO (dIsX 4 v_caught)).bind fun d15 => R.ok (d15 :: [])).bind fun ds18 => R.ok (d17 :: ds18)).bind fun ds19 => R.ok (.list ds19)).bind fun x21 => R.ofO (dAdd v_kinds1 x21)).bind fun v_kinds12 => (((((R.ofO (dList v_kinds12)).bind fun ds24 => R.ofO (dCountB ds24 (.bool true))).bind fun x26 => R.ofO (dNe x26 (.int 1))).bind fun x22 => R.ofO (dBool x22)).bind fun b35 => if b35 = true then R.ok true else (((R.ofO (dIsX 5 v_caught)).bind fun x29 => R.ofO (dBool x29)).bind fun b30 => R.ok !b30).bind fun b34 => if b34 = true then R.ok true else ((R.ofO (dIsX 6 v_caught)).bind fun x32 => R.ofO (dBool x32)).bind fun b33 => R.ok !b33).bind fun b36 => if b36 = true then R.ok (.str "odd") else ((R.ofO (dList v_kinds12)).bind fun ds49 => R.ofO (dIndex ds49 (.bool true))).bind fun x52 => R.ofO (dAt (.list ((.str "grouping") :: ((.str "number") :: ((.str "pairs") :: ((.str "text") :: ((.str "none") :: [])))))) x52)
  | _ => .bad
def d_check_text : List D → R D
  | [v_text] => R.seqE ((((R.ofO (dIsTy .str v_text)).bind fun x2 => R.ofO (dBool x2)).bind fun b3 => R.ok !b3).bind fun b4 => if b4 = true then (R.err 3).bind fun x5 => R.ok (.rt x5) else R.ok (.nx ())) fun _ => R.ok .none
  | _ => .bad
def d_is_int : List D → R D
  | [v_value, v_low, v_high] => ((R.ofO (dIsTy .int v_value)).bind fun x11 => R.ofO (dBool x11)).bind fun x12 => if x12 = true then ((((R.ofO (dIsTy .bool v_value)).bind fun x3 => R.ofO (dBool x3)).bind fun b => R.ok (.bool !b)).bind fun x9 => R.ofO (dBool x9)).bind fun x10 => if x10 = true then (R.ofO (dLe v_low v_value)).bind fun x6 => (R.ofO (dBool x6)).bind fun x7 => if x7 = true then R.ofO (dLe v_value v_high) else R.ok (.bool false) else R.ok (.bool false) else R.ok (.bool false)
  | _ => .bad
def d_is_grouping : List D → R D
  | [v_value] => ((((R.ofO (dIsTy .list v_value)).bind fun x2 => R.ofO (dBool x2)).bind fun b3 => R.ok !b3).bind fun b14 => if b14 = true then R.ok true else (((R.ofO (dLen (v_value :: []))).bind fun x9 => (R.ofO (dLe (.int 1) x9)).bind fun x10 => (R.ofO (dBool x10)).bind fun x11 => if x11 = true then R.ofO (dLe x9 (.int 7)) else R.ok (.bool false)).bind fun x4 => R.ofO (dBool x4)).bind fun b13 => R.ok !b13).bind fun b15 => if b15 = true then R.ok (.bool false) else ((R.ofO (dList v_value)).bind fun ds38 => R.foldS some (fun (p17 : D) (a19 : D) => (((((((R.ofO (dAdd p17 (.int 1))).bind fun d22 => R.ok (d22 :: [])).bind fun ds25 => R.ok ((.int 0) :: ds25)).bind fun ds27 => R.ok (a19 :: ds27)).bind d_is_int).bind fun x28 => R.ofO (dBool x28)).bind fun b29 => R.ok !b29).bind fun b30 => if b30 = true then R.ok (.rt (.bool false)) else (R.ofO (dMax (p17 :: (a19 :: [])))).bind fun v_most31 => R.ok (.nx v_most31)) ds38 (.int (-1))).seqE fun p17 => R.ok (.bool true)
  | _ => .bad
def d_parse_grouping : List D → R D
  | [v_text] => (((R.ok (v_text :: [])).bind d_check_text).bind fun x3 => R.ok ()).bind fun _ => (((((((R.ofO (dChars v_text)).bind fun ds8 => R.comp some (fun _ => R.ok true) (fun a5 => R.ofO (dIn a5 (.str "0123456789"))) ds8).bind fun ds9 => R.ok (.list ds9)).bind fun d10 => R.ok (d10 :: [])).bind fun ds12 => R.ofO (dAll ds12)).bind fun x13 => R.ofO (dBool x13)).bind fun b14 => R.ok !b14).bind fun b15 => if b15 = true then R.err 3 else (((R.ofO (dChars v_text)).bind fun ds22 => R.comp some (fun _ => R.ok true) (fun a18 => R.ofO (dIntS (a18 :: []))) ds22).bind fun ds28 => R.ok (.list ds28)).bind fun v_found16 => ((((R.ok (v_found16 :: [])).bind d_is_grouping).bind fun x25 => R.ofO (dBool x25)).bind fun b26 => R.ok !b26).bind fun b27 => if b27 = true then R.err 3 else R.ok (v_found16)
  | _ => .bad
def d_numbered : List D → R D
  | [v_labels] => ((R.ofO (dList v_labels)).bind fun ds18 => R.fold some (fun (p3 : List D × List D) (a5 : D) => (((R.ofO (dNotIn a5 (.list p3.1))).bind fun x6 => R.ofO (dBool x6)).bind fun b9 => if b9 = true then (R.ofO (dPush (p3.1) a5)).bind fun v_known11 => R.ok v_known11 else R.ok p3.1).bind fun p10 => (((R.ofO (dList (.list p10))).bind fun ds14 => R.ofO (dIndex ds14 a5)).bind fun x17 => R.ofO (dPush (p3.2) x17)).bind fun v_found16 => R.ok (p10, v_found16)) ds18 ([], [])).bind fun p3 => R.ok (.list p3.2)
  | _ => .bad
def d_grouping_of : List D → R D
  | [v_parts] => ((((R.ofO (dIsTy .list v_parts)).bind fun x2 => R.ofO (dBool x2)).bind fun b3 => R.ok !b3).bind fun b19 => if b19 = true then R.ok true else ((((((R.ofO (dList v_parts)).bind fun ds12 => R.comp some (fun _ => R.ok true) (fun a5 => ((R.ofO (dIsTy .list a5)).bind fun x10 => R.ofO (dBool x10)).bind fun x11 => if x11 = true then R.ofO (dNe a5 (.list [])) else R.ok (.bool false)) ds12).bind fun ds13 => R.ok (.list ds13)).bind fun d14 => R.ok (d14 :: [])).bind fun ds16 => R.ofO (dAll ds16)).bind fun x17 => R.ofO (dBool x17)).bind fun b18 => R.ok !b18).bind fun b20 => if b20 = true then R.err 0 else ((R.ofO (dList v_parts)).bind fun ds90 => R.fold some (fun (p23 : D) (a25 : D) => (R.ofO (dAdd p23 a25)).bind fun v_things26 => R.ok v_things26) ds90 (.list [])).bind fun p23 => (((((R.ofO (dLen (p23 :: []))).bind fun x34 => (R.ofO (dLe (.int 1) x34)).bind fun x35 => (R.ofO (dBool x35)).bind fun x36 => if x36 = true then R.ofO (dLe x34 (.int 7)) else R.ok (.bool false)).bind fun x29 => R.ofO (dBool x29)).bind fun b38 => R.ok !b38).bind fun b54 => if b54 = true then R.ok true else ((((((R.ofO (dList p23)).bind fun ds47 => R.comp some (fun _ => R.ok true) (fun a40 => (R.ok (a40 :: ((.int 0) :: ((.int 6) :: [])))).bind d_is_int) ds47).bind fun ds48 => R.ok (.list ds48)).bind fun d49 => R.ok (d49 :: [])).bind fun ds51 => R.ofO (dAll ds51)).bind fun x52 => R.ofO (dBool x52)).bind fun b53 => R.ok !b53).bind fun b55 => if b55 = true then R.err 0 else (((R.ofO (dSortA (p23 :: []))).bind fun x65 => (((R.ofO (dLen (p23 :: []))).bind fun x63 => R.ofO (dRange1 [x63])).bind fun ds64 => R.ok (.list ds64)).bind fun x66 => R.ofO (dNe x65 x66)).bind fun x56 => R.ofO (dBool x56)).bind fun b67 => if b67 = true then R.err 0 else ((((((R.ofO (dLen (p23 :: []))).bind fun d71 => R.ok (d71 :: [])).bind fun ds73 => R.ofO (dRange1 ds73)).bind fun ds86 => R.comp some (fun _ => R.ok true) (fun a74 => (((R.ofO (dEnum (v_parts :: []))).bind fun ds82 => R.comp dPair (fun a78 => (R.ofO (dIn a74 a78.2)).bind fun x79 => R.ofO (dBool x79)) (fun a78 => R.ok (a78.1)) ds82).bind fun ds83 => R.ok (.list ds83)).bind fun x84 => R.ofO (dAt x84 (.int 0))) ds86).bind fun ds87 => R.ok (.list ds87)).bind fun d88 => R.ok (d88 :: [])).bind d_numbered
  | _ => .bad
def d_groups_of : List D → R D
  | [v_grouping] => (((((R.ofO (dMax (v_grouping :: []))).bind fun x4 => R.ofO (dAdd x4 (.int 1))).bind fun d6 => R.ok (d6 :: [])).bind fun ds8 => R.ofO (dRange1 ds8)).bind fun ds24 => R.comp some (fun _ => R.ok true) (fun a9 => ((((R.ofO (dLen (v_grouping :: []))).bind fun d13 => R.ok (d13 :: [])).bind fun ds15 => R.ofO (dRange1 ds15)).bind fun ds22 => R.comp some (fun a16 => ((R.ofO (dAt v_grouping a16)).bind fun x20 => R.ofO (dEq x20 a9)).bind fun x17 => R.ofO (dBool x17)) (fun a16 => R.ok (a16)) ds22).bind fun ds23 => R.ok (.list ds23)) ds24).bind fun ds25 => R.ok (.list ds25)
  | _ => .bad
def d_parse_groups : List D → R D
  | [v_text] => (((R.ok (v_text :: [])).bind d_check_text).bind fun x3 => R.ok ()).bind fun _ => (((R.ofO (dStr v_text)).bind fun s6 => R.ofO (dSplit s6 (.str "|"))).bind fun ds8 => R.ok (.list ds8)).bind fun v_parts4 => (((((((R.ofO (dList v_parts4)).bind fun ds24 => R.comp some (fun _ => R.ok true) (fun a10 => ((R.ofO (dNe a10 (.str ""))).bind fun x22 => R.ofO (dBool x22)).bind fun x23 => if x23 = true then ((((R.ofO (dChars a10)).bind fun ds17 => R.comp some (fun _ => R.ok true) (fun a14 => R.ofO (dIn a14 (.str "0123456789"))) ds17).bind fun ds18 => R.ok (.list ds18)).bind fun d19 => R.ok (d19 :: [])).bind fun ds21 => R.ofO (dAll ds21) else R.ok (.bool false)) ds24).bind fun ds25 => R.ok (.list ds25)).bind fun d26 => R.ok (d26 :: [])).bind fun ds28 => R.ofO (dAll ds28)).bind fun x29 => R.ofO (dBool x29)).bind fun b30 => R.ok !b30).bind fun b31 => if b31 = true then R.err 3 else (((R.ofO (dList v_parts4)).bind fun ds42 => R.comp some (fun _ => R.ok true) (fun a34 => ((R.ofO (dChars a34)).bind fun ds40 => R.comp some (fun _ => R.ok true) (fun a36 => R.ofO (dIntS (a36 :: []))) ds40).bind fun ds41 => R.ok (.list ds41)) ds42).bind fun ds57 => R.ok (.list ds57)).bind fun v_things32 => (R.tryc (fun (a : D) => a) (fun (_ : Nat) => (.none : D)) ((R.ok (v_things32 :: [])).bind d_grouping_of)).bind fun p46 => (((R.ofO (dIs p46 .none)).bind fun x47 => R.ofO (dBool x47)).bind fun b55 => if b55 = true then R.ok true else (((R.ok (p46 :: [])).bind d_groups_of).bind fun x53 => R.ofO (dNe x53 v_things32)).bind fun x50 => R.ofO (dBool x50)).bind fun b56 => if b56 = true then R.err 3 else R.ok (p46)
  | _ => .bad
def d_law_parsed : List D → R D
  | [v_kind, v_text] => (R.tryc (fun (a : D) => ((a, .none) : D × D)) (fun k => ((.none, dExc k) : D × D)) ((((R.ofO (dEq v_kind (.int 0))).bind fun x3 => R.ofO (dBool x3)).noE).bind fun b10 => if b10 = true then (R.ok (v_text :: [])).bind d_parse_grouping else (R.ok (v_text :: [])).bind d_parse_groups)).bind fun p11 => ((R.ofO (dIs p11.2 .none)).bind fun x12 => R.ofO (dBool x12)).bind fun b17 => if b17 = true then R.ok (p11.1) else (R.ok (p11.2 :: [])).bind d_law_error
  | _ => .bad
def d_law_rejected : List D → R D
  | [] => ((((((R.ofO (dList ((.list (.none :: ((.int 5) :: ((.str "") :: ((.str " ") :: ((.str "1") :: ((.str "02") :: ((.str "0 1") :: ((.str "0,1") :: ((.str "a") :: ((.str "-0") :: ((.str "00000000") :: ((.str "0.") :: ((.list ((.str "0") :: [])) :: []))))))))))))))))).bind fun ds39 => R.comp some (fun _ => R.ok true) (fun a34 => (R.ok ((.int 0) :: (a34 :: []))).bind d_law_parsed) ds39).bind fun ds40 => R.ok (.list ds40)).bind fun x46 => (R.ofO (dMul (.list ((.str "text") :: [])) (.int 13))).bind fun x47 => R.ofO (dNe x46 x47)).bind fun x32 => R.ofO (dBool x32)).bind fun b70 => if b70 = true then R.ok true else (((R.ok ((.int 0) :: ((.str "0123456") :: []))).bind d_law_parsed).bind fun x68 => R.ofO (dNe x68 (.list ((.int 0) :: ((.int 1) :: ((.int 2) :: ((.int 3) :: ((.int 4) :: ((.int 5) :: ((.int 6) :: [])))))))))).bind fun x48 => R.ofO (dBool x48)).bind fun b71 => if b71 = true then R.ok (.bool false) else (((((R.ofO (dList ((.list (.none :: ((.int 5) :: ((.str "") :: ((.str "|") :: ((.str "0|") :: ((.str "|0") :: ((.str "1|0") :: ((.str "10") :: ((.str "0||1") :: ((.str "02") :: ((.str "0|2") :: ((.str "00") :: ((.str "0|0") :: ((.str "0 |1") :: ((.str "a") :: ((.str "12|0") :: ((.str "01234567") :: ((.str "0-1") :: [])))))))))))))))))))))).bind fun ds116 => R.comp some (fun _ => R.ok true) (fun a111 => (R.ok ((.int 1) :: (a111 :: []))).bind d_law_parsed) ds116).bind fun ds117 => R.ok (.list ds117)).bind fun x123 => (R.ofO (dMul (.list ((.str "text") :: [])) (.int 18))).bind fun x124 => R.ofO (dEq x123 x124)).bind fun x151 => R.ofO (dBool x151)).bind fun x152 => if x152 = true then ((((R.ok ((.int 1) :: ((.str "02|1") :: []))).bind d_law_parsed).bind fun x136 => R.ofO (dEq x136 (.list ((.int 0) :: ((.int 1) :: ((.int 0) :: [])))))).bind fun x149 => R.ofO (dBool x149)).bind fun x150 => if x150 = true then ((R.ok ((.int 1) :: ((.str "0123456") :: []))).bind d_law_parsed).bind fun x147 => (R.ofO (dMul (.list ((.int 0) :: [])) (.int 7))).bind fun x148 => R.ofO (dEq x147 x148) else R.ok (.bool false) else R.ok (.bool false)
  | _ => .bad
def d_check_grouping : List D → R D
  | [v_value] => R.seqE (((((R.ok (v_value :: [])).bind d_is_grouping).bind fun x3 => R.ofO (dBool x3)).bind fun b4 => R.ok !b4).bind fun b5 => if b5 = true then (R.err 0).bind fun x6 => R.ok (.rt x6) else R.ok (.nx ())) fun _ => R.ok .none
  | _ => .bad
def d_format_grouping : List D → R D
  | [v_grouping] => (((R.ok (v_grouping :: [])).bind d_check_grouping).bind fun x3 => R.ok ()).bind fun _ => (R.ofO (dStr (.str ""))).bind fun s12 => (((R.ofO (dList v_grouping)).bind fun ds9 => R.comp some (fun _ => R.ok true) (fun a5 => R.ofO (dStrI (a5 :: []))) ds9).bind fun ds10 => R.ok (.list ds10)).bind fun x13 => R.ofO (dJoin s12 x13)
  | _ => .bad
def d_format_groups : List D → R D
  | [v_grouping] => (((R.ok (v_grouping :: [])).bind d_check_grouping).bind fun x3 => R.ok ()).bind fun _ => (R.ofO (dStr (.str "|"))).bind fun s21 => (((((R.ok (v_grouping :: [])).bind d_groups_of).bind fun x4 => R.ofO (dList x4)).bind fun ds18 => R.comp some (fun _ => R.ok true) (fun a7 => (R.ofO (dStr (.str ""))).bind fun s16 => (((R.ofO (dList a7)).bind fun ds13 => R.comp some (fun _ => R.ok true) (fun a9 => R.ofO (dStrI (a9 :: []))) ds13).bind fun ds14 => R.ok (.list ds14)).bind fun x17 => R.ofO (dJoin s16 x17)) ds18).bind fun ds19 => R.ok (.list ds19)).bind fun x22 => R.ofO (dJoin s21 x22)
  | _ => .bad
def d_law_groups : List D → R D
  | [v_row] => (((((R.ofO (dMax (v_row :: []))).bind fun x4 => R.ofO (dAdd x4 (.int 1))).bind fun d6 => R.ok (d6 :: [])).bind fun ds8 => R.ofO (dRange1 ds8)).bind fun ds24 => R.comp some (fun _ => R.ok true) (fun a9 => ((((R.ofO (dLen (v_row :: []))).bind fun d13 => R.ok (d13 :: [])).bind fun ds15 => R.ofO (dRange1 ds15)).bind fun ds22 => R.comp some (fun a16 => ((R.ofO (dAt v_row a16)).bind fun x20 => R.ofO (dEq x20 a9)).bind fun x17 => R.ofO (dBool x17)) (fun a16 => R.ok (a16)) ds22).bind fun ds23 => R.ok (.list ds23)) ds24).bind fun ds25 => R.ok (.list ds25)
  | _ => .bad
def d_law_written : List D → R D
  | [v_kind, v_row] => ((R.ofO (dEq v_kind (.int 0))).bind fun x1 => R.ofO (dBool x1)).bind fun b4 => if b4 = true then (R.ofO (dStr (.str ""))).bind fun s13 => (((R.ofO (dList v_row)).bind fun ds10 => R.comp some (fun _ => R.ok true) (fun a6 => R.ofO (dStrI (a6 :: []))) ds10).bind fun ds11 => R.ok (.list ds11)).bind fun x14 => R.ofO (dJoin s13 x14) else (R.ofO (dStr (.str "|"))).bind fun s32 => (((((R.ok (v_row :: [])).bind d_law_groups).bind fun x15 => R.ofO (dList x15)).bind fun ds29 => R.comp some (fun _ => R.ok true) (fun a18 => (R.ofO (dStr (.str ""))).bind fun s27 => (((R.ofO (dList a18)).bind fun ds24 => R.comp some (fun _ => R.ok true) (fun a20 => R.ofO (dStrI (a20 :: []))) ds24).bind fun ds25 => R.ok (.list ds25)).bind fun x28 => R.ofO (dJoin s27 x28)) ds29).bind fun ds30 => R.ok (.list ds30)).bind fun x33 => R.ofO (dJoin s32 x33)
  | _ => .bad
def l1_law (a25 : D) (v_other80 : D) : R (Stp (Unit)) := ((R.ok (a25 :: (v_other80 :: []))).bind d_law_parsed).bind fun v_found118 => (((R.ofO (dNe v_found118 (.str "text"))).bind fun x123 => R.ofO (dBool x123)).bind fun b133 => if b133 = true then (((R.ok (a25 :: (v_found118 :: []))).bind d_law_written).bind fun x132 => R.ofO (dNe v_other80 x132)).bind fun x126 => R.ofO (dBool x126) else R.ok false).bind fun b134 => if b134 = true then R.ok (.rt (.bool false)) else R.ok (.nx ())
def l2_law (v_texts8 : D) (a25 : D) : R (D) := R.ofO (dAt v_texts8 a25)
def l3_law (v_texts8 : D) (a25 : D) (v_row1 : D) : R (Bool) := (((R.ofO (dAt v_texts8 a25)).bind fun x33 => ((R.ok (a25 :: (v_row1 :: []))).bind d_law_written).bind fun x34 => R.ofO (dNe x33 x34)).bind fun x26 => R.ofO (dBool x26)).bind fun b44 => if b44 = true then R.ok true else (((((R.ofO (dAt v_texts8 a25)).bind fun d38 => R.ok (d38 :: [])).bind fun ds41 => R.ok (a25 :: ds41)).bind d_law_parsed).bind fun x42 => R.ofO (dNe x42 v_row1)).bind fun x35 => R.ofO (dBool x35)
def l4_law  : R (D) := d_law_rejected []
def l5_law (v_row1 : D) : R (D) := (((R.ok (v_row1 :: [])).bind d_format_grouping).bind fun d15 => (((R.ok (v_row1 :: [])).bind d_format_groups).bind fun d13 => R.ok (d13 :: [])).bind fun ds16 => R.ok (d15 :: ds16)).bind fun ds17 => R.ok (.list ds17)
def w_law : WP D := (((((WP.ret ((.int 7) :: [])).bind wDraw).bind fun x5 => WP.opt (dAdd (.int 1) x5)).bind fun d6 => WP.ret (d6 :: [])).bind d_law_grouping).bind fun v_row1 => (WP.lift (l5_law v_row1)).bind fun v_texts8 => ((WP.opt (dList (.list ((.int 0) :: ((.int 1) :: []))))).bind fun ds138 => WP.foldS some (fun (p18 : Unit) (a25 : D) => (WP.lift (l3_law v_texts8 a25 v_row1)).bind fun b45 => if b45 = true then WP.ret (.rt (.bool false)) else ((WP.opt (dRange1 ((.int 10) :: []))).bind fun ds136 => WP.foldS some (fun (p46 : Unit) (a50 : D) => (WP.lift (l2_law v_texts8 a25)).bind fun v_own51 => ((((WP.opt (dLen (v_own51 :: []))).bind fun x58 => WP.opt (dAdd x58 (.int 1))).bind fun d60 => WP.ret (d60 :: [])).bind wDraw).bind fun v_at54 => ((WP.ret ((.list ((.str "0") :: ((.str "1") :: ((.str "2") :: ((.str " ") :: ((.str "|") :: ((.str "x") :: ((.str "") :: [])))))))) :: [])).bind d_law_pick).bind fun v_mark62 => ((((((((WP.opt (dInt v_at54)).bind fun x83 => WP.opt (dCut none (some x83) v_own51)).bind fun x86 => WP.opt (dAdd x86 v_mark62)).bind fun x95 => ((WP.opt (dAdd v_at54 (.int 1))).bind fun x91 => (WP.opt (dInt x91)).bind fun x92 => WP.opt (dCut (some x92) none v_own51)).bind fun x96 => WP.opt (dAdd x95 x96)).bind fun d113 => (((((WP.opt (dInt v_at54)).bind fun x99 => WP.opt (dCut none (some x99) v_own51)).bind fun x102 => WP.opt (dAdd x102 v_mark62)).bind fun x109 => ((WP.opt (dInt v_at54)).bind fun x106 => WP.opt (dCut (some x106) none v_own51)).bind fun x110 => WP.opt (dAdd x109 x110)).bind fun d111 => WP.ret (d111 :: [])).bind fun ds114 => WP.ret (d113 :: ds114)).bind fun ds115 => WP.ret (.list ds115)).bind fun d116 => WP.ret (d116 :: [])).bind d_law_pick).bind fun v_other80 => WP.lift (l1_law a25 v_other80)) ds136 ()).seq fun p46 => WP.ret (.nx ())) ds138 ()).seqE fun p18 => WP.lift l4_law
end GD
namespace GM
open PySem GA
/-- no proof by reckoning for the kernel -/
theorem nr {α : Type} {a b : α} (h : a = b) : a = b := h
/-! results, reckoned -/
@[simp] theorem bind_ok {α β : Type} (a : α) (f : α → R β) : (R.ok a).bind f = f a := nr rfl
@[simp] theorem bind_err {α β : Type} (k : Nat) (f : α → R β) : (R.err k).bind f = R.err k := nr rfl
@[simp] theorem bind_bad {α β : Type} (f : α → R β) : (R.bad).bind f = R.bad := nr rfl
@[simp] theorem ofO_some {α : Type} (a : α) : R.ofO (some a) = R.ok a := nr rfl
@[simp] theorem ofO_none {α : Type} : R.ofO (none : Option α) = R.bad := nr rfl
@[simp] theorem noE_ok {α : Type} (a : α) : (R.ok a).noE = R.ok a := nr rfl
@[simp] theorem seqE_nx {α : Type} (a : α) (f : α → R D) : (R.ok (Stp.nx a)).seqE f = f a := nr rfl
@[simp] theorem seqE_rt {α : Type} (d : D) (f : α → R D) : (R.ok (Stp.rt d)).seqE f = .ok d := nr rfl
@[simp] theorem seqE_err {α : Type} (k : Nat) (f : α → R D) : (R.err k : R (Stp α)).seqE f = .err k := nr rfl
@[simp] theorem seq_nx {α β : Type} (a : α) (f : α → R (Stp β)) : (R.ok (Stp.nx a)).seq f = f a := nr rfl
@[simp] theorem seq_rt {α β : Type} (d : D) (f : α → R (Stp β)) : (R.ok (Stp.rt d)).seq f = .ok (.rt d) := nr rfl
theorem run_bind {α β : Type} (m : WP α) (f : α → WP β) (P : β → Prop) (E : Nat → Prop) : (m.bind f).run P E = m.run (fun a => (f a).run P E) E := rfl
theorem run_ret {α : Type} (a : α) (P : α → Prop) (E : Nat → Prop) : (WP.ret a).run P E = P a := rfl
theorem run_ok {α : Type} (a : α) (P : α → Prop) (E : Nat → Prop) : (WP.lift (R.ok a)).run P E = P a := rfl
theorem run_some {α : Type} (a : α) (P : α → Prop) (E : Nat → Prop) : (WP.opt (some a)).run P E = P a := rfl
theorem run_of {α : Type} {r : R α} {a : α} {P : α → Prop} {E : Nat → Prop} (h : r = .ok a) (p : P a) : (WP.lift r).run P E := by rw [h]; exact p
/-! data of a type -/
class Enc (α : Type) [DecidableEq α] where
  enc : α → D
  eqv : ∀ a b, PyData.eqv (enc a) (enc b) = decide (a = b)
  lay : ∀ a, PyData.canLay0 (enc a) = true
  dp : Nat
  dep : ∀ a, PyData.depth (enc a) ≤ dp
open Enc (enc)
instance : Enc Int where
  enc := .int
  eqv := fun a b => by simp only [PyData.eqv]; rw [Bool.beq_eq_decide_eq]
  lay := fun _ => by simp only [PyData.canLay0]
  dp := 0
  dep := fun _ => by simp [PyData.depth]
instance : Enc Nat where
  enc := fun n => .int (n : Int)
  eqv := fun a b => by
    simp only [PyData.eqv]
    rw [Bool.beq_eq_decide_eq]
    exact decide_eq_decide.mpr (by omega)
  lay := fun _ => by simp only [PyData.canLay0]
  dp := 0
  dep := fun _ => by simp [PyData.depth]
instance : Enc Bool where
  enc := .bool
  eqv := fun a b => by simp only [PyData.eqv]; rw [Bool.beq_eq_decide_eq]
  lay := fun _ => by simp only [PyData.canLay0]
  dp := 0
  dep := fun _ => by simp [PyData.depth]
section
variable {α β : Type} [DecidableEq α] [DecidableEq β] [Enc α] [Enc β]
theorem eqvAll_enc : ∀ xs ys : List α, PyData.eqvAll (xs.map enc) (ys.map enc) = decide (xs = ys)
  | [], [] => by simp [PyData.eqvAll]
  | [], _ :: _ => by simp [PyData.eqvAll]
  | _ :: _, [] => by simp [PyData.eqvAll]
  | x :: xs, y :: ys => by
    simp only [List.map_cons, PyData.eqvAll, eqvAll_enc xs ys, Enc.eqv]
    by_cases h1 : x = y
    · by_cases h2 : xs = ys
      · simp [h1, h2]
      · simp [h1, h2]
    · simp [h1]
theorem layAll_enc : ∀ xs : List α, PyData.canLayAll0 (xs.map enc) = true
  | [] => by simp [PyData.canLayAll0]
  | x :: xs => by simp only [List.map_cons, PyData.canLayAll0, layAll_enc xs, Enc.lay, Bool.and_self]
theorem depAll_enc : ∀ xs : List α, PyData.depthAll (xs.map enc) ≤ Enc.dp α
  | [] => by simp [PyData.depthAll]
  | x :: xs => by
    have h1 := depAll_enc xs
    have h2 := Enc.dep (α := α) x
    simp only [List.map_cons, PyData.depthAll]
    omega
instance : Enc (List α) where
  enc := fun xs => .list (xs.map enc)
  eqv := fun a b => by simp only [PyData.eqv]; exact eqvAll_enc a b
  lay := fun a => by simp only [PyData.canLay0]; exact layAll_enc a
  dp := Enc.dp α + 1
  dep := fun a => by
    have := depAll_enc a
    simp only [PyData.depth]
    omega
instance : Enc (α × β) where
  enc := fun p => .tuple [enc p.1, enc p.2]
  eqv := fun a b => by
    simp only [PyData.eqv, PyData.eqvAll, Enc.eqv, Bool.and_true]
    by_cases h1 : a.1 = b.1
    · by_cases h2 : a.2 = b.2
      · have : a = b := Prod.ext h1 h2
        simp [this]
      · have : a ≠ b := fun z => h2 (by rw [z])
        simp [this, h2]
    · have : a ≠ b := fun z => h1 (by rw [z])
      simp [this, h1]
  lay := fun a => by simp only [PyData.canLay0, PyData.canLayAll0, Enc.lay, Bool.and_self]
  dp := max (Enc.dp α) (Enc.dp β) + 1
  dep := fun a => by
    have h1 := Enc.dep (α := α) a.1
    have h2 := Enc.dep (α := β) a.2
    simp only [PyData.depth, PyData.depthAll]
    omega
theorem enc_list (xs : List α) : (enc xs : D) = .list (xs.map enc) := rfl
theorem shp_enc (h : Enc.dp α ≤ 64) (a : α) : dShp (enc a) = true := by
  unfold dShp SeqAt.shaped
  rw [Enc.lay, decide_eq_true (Nat.le_trans (Enc.dep a) h)] <;> rfl
theorem dEq_enc (h : Enc.dp α ≤ 64) (a b : α) : dEq (enc a) (enc b) = some (.bool (decide (a = b))) := by
  unfold dEq
  rw [if_pos ⟨shp_enc h a, shp_enc h b⟩, Enc.eqv]
theorem dNe_enc (h : Enc.dp α ≤ 64) (a b : α) : dNe (enc a) (enc b) = some (.bool (!decide (a = b))) := by
  unfold dNe
  rw [if_pos ⟨shp_enc h a, shp_enc h b⟩, Enc.eqv]
theorem any_enc (x : α) : ∀ xs : List α, ((xs.map enc).any fun z => PyData.eqv z (enc x)) = decide (x ∈ xs)
  | [] => by simp
  | y :: ys => by
    rw [List.map_cons, List.any_cons, any_enc x ys, Enc.eqv]
    by_cases h1 : y = x
    · simp [h1]
    · by_cases h2 : x ∈ ys
      · simp [h2]
      · have : ¬ x = y := fun z => h1 z.symm
        simp [h1, h2, this]
theorem dIn_enc (h : Enc.dp α < 64) (x : α) (xs : List α) : dIn (enc x) (.list (xs.map enc)) = some (.bool (decide (x ∈ xs))) := by
  unfold dIn dInL
  simp only []
  have s2 : dShp (.list (xs.map enc)) = true := shp_enc (α := List α) (by show Enc.dp α + 1 ≤ 64; omega) xs
  rw [if_pos ⟨shp_enc (by omega) x, s2⟩, any_enc, Bool.false_xor]
theorem dNotIn_enc (h : Enc.dp α < 64) (x : α) (xs : List α) : dNotIn (enc x) (.list (xs.map enc)) = some (.bool (!decide (x ∈ xs))) := by
  unfold dNotIn dInL
  simp only []
  have s2 : dShp (.list (xs.map enc)) = true := shp_enc (α := List α) (by show Enc.dp α + 1 ≤ 64; omega) xs
  rw [if_pos ⟨shp_enc (by omega) x, s2⟩, any_enc, Bool.true_xor]
/-- the first place of x -/
def pos (x : α) : List α → Option Nat
  | [] => none
  | y :: ys => if y = x then some 0 else (pos x ys).map (· + 1)
theorem idxOf_enc (x : α) : ∀ xs : List α, GA.idxOf (enc x) (xs.map enc) = pos x xs
  | [] => rfl
  | y :: ys => by
    rw [List.map_cons]
    unfold pos GA.idxOf
    rw [Enc.eqv, idxOf_enc x ys]
    by_cases h : y = x <;> simp [h]
theorem dIndex_enc (h : Enc.dp α < 64) (x : α) (xs : List α) : dIndex (xs.map enc) (enc x) = (pos x xs).map fun j => .int (j : Nat) := by
  unfold dIndex
  have s2 : dShp (.list (xs.map enc)) = true := shp_enc (α := List α) (by show Enc.dp α + 1 ≤ 64; omega) xs
  rw [if_pos ⟨s2, shp_enc (by omega) x⟩, idxOf_enc]
theorem dAt_nat {α : Type} (xs : List α) (f : α → D) (i : Nat) (h : i < xs.length) : dAt (.list (xs.map f)) (.int (i : Nat)) = some (f xs[i]) := by
  show L2.atI _ _ = _
  exact L2.atI_nat (by rw [List.getElem?_map, List.getElem?_eq_getElem h]; rfl)
end
/-! comprehensions -/
theorem comp_ok {α β : Type} (xs : List α) (e : α → D) (f : D → Option β) (k : α → β) (t : β → R Bool) (p : α → Bool) (y : β → R D) (g : α → D)
    (hf : ∀ x, x ∈ xs → f (e x) = some (k x)) (ht : ∀ x, x ∈ xs → t (k x) = .ok (p x)) (hy : ∀ x, x ∈ xs → p x = true → y (k x) = .ok (g x)) : R.comp f t y (xs.map e) = .ok ((xs.filter p).map g) := by
  induction xs with
  | nil => rfl
  | cons x xs ih =>
    have ih := ih (fun z hz => hf z (List.mem_cons_of_mem _ hz)) (fun z hz => ht z (List.mem_cons_of_mem _ hz)) (fun z hz => hy z (List.mem_cons_of_mem _ hz))
    have hx : x ∈ x :: xs := List.mem_cons_self
    simp only [List.map_cons, R.comp, hf x hx, ofO_some, bind_ok, ht x hx, noE_ok, ih]
    cases hp : p x with
    | true => simp [hp, hy x hx hp]
    | false => simp [hp]
theorem comp_map {α β : Type} (xs : List α) (e : α → D) (f : D → Option β) (k : α → β) (y : β → R D) (g : α → D)
    (hf : ∀ x, x ∈ xs → f (e x) = some (k x)) (hy : ∀ x, x ∈ xs → y (k x) = .ok (g x)) : R.comp f (fun _ => .ok true) y (xs.map e) = .ok (xs.map g) := by
  have := comp_ok xs e f k (fun _ => .ok true) (fun _ => true) y g hf (fun _ _ => rfl) (fun x hx _ => hy x hx)
  rw [this, List.filter_eq_self.mpr (fun _ _ => rfl)]
theorem wcomp_ok {α β : Type} (xs : List α) (e : α → D) (f : D → Option β) (k : α → β) (t : β → WP Bool) (p : α → Bool) (y : β → WP D) (g : α → D) (P : List D → Prop) (E : Nat → Prop)
    (hf : ∀ x, x ∈ xs → f (e x) = some (k x)) (ht : ∀ x, x ∈ xs → t (k x) = .lift (.ok (p x))) (hy : ∀ x, x ∈ xs → p x = true → y (k x) = .lift (.ok (g x))) (h : P ((xs.filter p).map g)) : (WP.comp f t y (xs.map e)).run P E := by
  have key : WP.comp f t y (xs.map e) = .lift (.ok ((xs.filter p).map g)) := by
    clear h P E
    induction xs with
    | nil => rfl
    | cons x xs ih =>
      have ih := ih (fun z hz => hf z (List.mem_cons_of_mem _ hz)) (fun z hz => ht z (List.mem_cons_of_mem _ hz)) (fun z hz => hy z (List.mem_cons_of_mem _ hz))
      have hx : x ∈ x :: xs := List.mem_cons_self
      simp only [List.map_cons, WP.comp, hf x hx, ht x hx, ih]
      show (t (k x)).noE.bind _ = _
      rw [ht x hx]
      cases hp : p x with
      | true =>
        rw [List.filter_cons, if_pos hp]
        show (y (k x)).noE.bind _ = _
        rw [hy x hx hp]
        rfl
      | false => rw [List.filter_cons, if_neg (by rw [hp]; decide)]; rfl
  rw [key]
  exact h
/-- n draws -/
theorem wcomp_draw {w : Int} (hw : 0 < w ∧ w < 1073741824) (f : Int → D) (y : D → WP D) (hy : ∀ d, y d = (wDraw [.int w]).bind fun r => WP.opt (match r with | .int r => some (f r) | _ => none)) (E : Nat → Prop) : ∀ (ds : List D) (P : List D → Prop), (∀ rs : List Int, rs.length = ds.length → (∀ r, r ∈ rs → 0 ≤ r ∧ r < w) → P (rs.map f)) → (WP.comp some (fun _ => WP.ret true) y ds).run P E
  | [], P, h => h [] rfl (fun _ z => nomatch z)
  | d :: ds, P, h => by
    show (y d).run _ _
    rw [hy]
    refine ⟨hw, fun r h0 h1 => ?_⟩
    show (WP.comp some (fun _ => WP.ret true) y ds).run _ _
    refine wcomp_draw hw f y hy E ds _ fun rs hl hr => h (r :: rs) (by simp [hl]) fun z hz => ?_
    rcases List.mem_cons.mp hz with rfl | hz
    · exact ⟨h0, h1⟩
    · exact hr z hz
end GM
namespace GM
open PySem GA
open Enc (enc)
theorem snoc_ind {α : Type} {P : List α → Prop} (h0 : P []) (h1 : ∀ xs x, P xs → P (xs ++ [x])) : ∀ xs, P xs := fun xs => by
  have h : ∀ ys : List α, P ys.reverse := fun ys => by
    induction ys with
    | nil => exact h0
    | cons y ys ih => rw [List.reverse_cons]; exact h1 _ _ ih
  have := h xs.reverse
  rwa [List.reverse_reverse] at this
section
variable {α : Type} [DecidableEq α]
theorem pos_some {x : α} : ∀ {xs : List α} {j : Nat}, pos x xs = some j → xs[j]? = some x ∧ ∀ m, m < j → xs[m]? ≠ some x
  | [], _, h => by cases h
  | y :: ys, j, h => by
    unfold pos at h
    split at h
    · rename_i e
      cases h
      exact ⟨by rw [e]; rfl, fun m hm => absurd hm (Nat.not_lt_zero m)⟩
    · rename_i e
      cases q : pos x ys with
      | none => rw [q] at h; cases h
      | some k =>
        rw [q] at h
        cases h
        obtain ⟨h1, h2⟩ := pos_some q
        refine ⟨h1, fun m hm => ?_⟩
        cases m with
        | zero => intro z; cases z; exact e rfl
        | succ m => exact h2 m (Nat.lt_of_succ_lt_succ hm)
theorem pos_none {x : α} : ∀ {xs : List α}, pos x xs = none ↔ x ∉ xs
  | [] => by simp [pos]
  | y :: ys => by
    unfold pos
    by_cases e : y = x
    · simp [e]
    · have ih := pos_none (x := x) (xs := ys)
      have e' : ¬ x = y := fun z => e z.symm
      simp [e, e', ih]
theorem pos_mem {x : α} {xs : List α} (h : x ∈ xs) : ∃ j, pos x xs = some j ∧ j < xs.length := by
  cases e : pos x xs with
  | none => exact absurd h (pos_none.mp e)
  | some j => exact ⟨j, rfl, (List.getElem?_eq_some_iff.mp (pos_some e).1).1⟩
theorem pos_append {x : α} {xs ys : List α} (h : x ∈ xs) : pos x (xs ++ ys) = pos x xs := by
  induction xs with
  | nil => cases h
  | cons z zs ih =>
    rw [List.cons_append]
    unfold pos
    by_cases e : z = x
    · rw [if_pos e, if_pos e]
    · rw [if_neg e, if_neg e, ih ((List.mem_cons.mp h).resolve_left fun z => e z.symm)]
theorem pos_new {x : α} {xs ys : List α} (h : x ∉ xs) : pos x (xs ++ x :: ys) = some xs.length := by
  induction xs with
  | nil => simp [pos]
  | cons z zs ih =>
    rw [List.cons_append]
    unfold pos
    have e : ¬ z = x := fun q => h (by rw [q]; exact List.mem_cons_self)
    rw [if_neg e, ih fun q => h (List.mem_cons_of_mem _ q)]
    rfl
/-- numbered: the labels met so far, the numbers so far -/
def nst (s : List α × List Nat) (x : α) : List α × List Nat := match pos x s.1 with
  | some j => (s.1, s.2 ++ [j])
  | none => (s.1 ++ [x], s.2 ++ [s.1.length])
def nfold (xs : List α) : List α × List Nat := xs.foldl nst ([], [])
def dd (xs : List α) : List α := (nfold xs).1
def numb (xs : List α) : List Nat := (nfold xs).2
theorem nfold_snoc (xs : List α) (x : α) : nfold (xs ++ [x]) = nst (nfold xs) x := by simp [nfold, List.foldl_append]
theorem dd_snoc (xs : List α) (x : α) : dd (xs ++ [x]) = if x ∈ dd xs then dd xs else dd xs ++ [x] := by
  unfold dd
  rw [nfold_snoc]
  unfold nst
  cases e : pos x (nfold xs).1 with
  | none => rw [if_neg (pos_none.mp e)]
  | some j => rw [if_pos (List.mem_of_getElem? (pos_some e).1)]
theorem numb_snoc (xs : List α) (x : α) : numb (xs ++ [x]) = numb xs ++ [(pos x (dd xs)).getD (dd xs).length] := by
  unfold numb dd
  rw [nfold_snoc]
  unfold nst
  cases e : pos x (nfold xs).1 <;> rfl
theorem mem_dd (x : α) : ∀ xs : List α, x ∈ dd xs ↔ x ∈ xs := by
  refine snoc_ind ?_ fun xs y ih => ?_
  · simp [dd, nfold]
  · rw [dd_snoc]
    split
    · rename_i h
      rw [List.mem_append, ih, List.mem_singleton]
      constructor
      · exact fun h => .inl h
      · rintro (h1 | rfl)
        · exact h1
        · exact ih.mp h
    · rw [List.mem_append, List.mem_append, ih]
theorem numb_length : ∀ xs : List α, (numb xs).length = xs.length := by
  refine snoc_ind rfl fun xs y ih => ?_
  rw [numb_snoc, List.length_append, List.length_append, ih]
  rfl
/-- each number is the place of its label among the labels met -/
theorem numb_get : ∀ xs : List α, ∀ (i : Nat) (x : α), xs[i]? = some x → (numb xs)[i]? = pos x (dd xs) := by
  refine snoc_ind (fun i x h => by simp at h) fun xs y ih i x h => ?_
  have hl := numb_length xs
  rw [numb_snoc, dd_snoc]
  by_cases hi : i < xs.length
  · rw [List.getElem?_append_left hi] at h
    rw [List.getElem?_append_left (by omega), ih i x h]
    have hx : x ∈ dd xs := (mem_dd x xs).mpr (List.mem_of_getElem? h)
    split
    · rfl
    · rw [pos_append hx]
  · rw [List.getElem?_append_right (by omega)] at h
    rw [List.getElem?_append_right (by omega)]
    have e0 : i - xs.length = 0 := by
      cases q : i - xs.length with
      | zero => rfl
      | succ n => rw [q] at h; simp at h
    rw [e0] at h
    rw [hl, e0]
    cases h
    by_cases hx : y ∈ dd xs
    · obtain ⟨j, hj, _⟩ := pos_mem hx
      rw [if_pos hx, hj]
      rfl
    · rw [if_neg hx, pos_none.mpr hx, pos_new hx]
      rfl
/-- two things have one number exactly if they have one label -/
theorem numb_ker {xs : List α} {i j : Nat} {x y : α} (hi : xs[i]? = some x) (hj : xs[j]? = some y) : (numb xs)[i]? = (numb xs)[j]? ↔ x = y := by
  rw [numb_get xs i x hi, numb_get xs j y hj]
  constructor
  · intro h
    obtain ⟨k, hk, _⟩ := pos_mem ((mem_dd x xs).mpr (List.mem_of_getElem? hi))
    rw [hk] at h
    have h1 := (pos_some hk).1
    have h2 := (pos_some h.symm).1
    rw [h1] at h2
    exact Option.some.inj h2
  · rintro rfl; rfl
end
/-! groupings: each number is at most the number of groups so far -/
def chk : Nat → List Nat → Bool
  | _, [] => true
  | m, x :: xs => decide (x ≤ m) && chk (max m (x + 1)) xs
/-- the number of groups -/
def ng (xs : List Nat) : Nat := xs.foldl (fun m x => max m (x + 1)) 0
def grpB (xs : List Nat) : Bool := decide (1 ≤ xs.length ∧ xs.length ≤ 7) && chk 0 xs
def Grp (xs : List Nat) : Prop := 1 ≤ xs.length ∧ xs.length ≤ 7 ∧ chk 0 xs = true
theorem grpB_iff {xs : List Nat} : grpB xs = true ↔ Grp xs := by
  unfold grpB Grp
  simp only [Bool.and_eq_true, decide_eq_true_eq, and_assoc]
theorem chk_append (ys : List Nat) : ∀ (xs : List Nat) (m : Nat), chk m (xs ++ ys) = (chk m xs && chk (xs.foldl (fun m x => max m (x + 1)) m) ys)
  | [], m => by simp [chk]
  | x :: xs, m => by
    simp only [List.cons_append, chk, List.foldl_cons]
    rw [chk_append ys xs, Bool.and_assoc]
section
variable {α : Type} [DecidableEq α]
theorem numb_chk : ∀ xs : List α, chk 0 (numb xs) = true ∧ ng (numb xs) = (dd xs).length := by
  refine snoc_ind ⟨rfl, rfl⟩ fun xs y ih => ?_
  rw [numb_snoc, dd_snoc]
  unfold ng
  rw [chk_append, List.foldl_append]
  have e : (numb xs).foldl (fun m x => max m (x + 1)) 0 = (dd xs).length := ih.2
  rw [e, ih.1]
  by_cases h : y ∈ dd xs
  · obtain ⟨j, hj, hl⟩ := pos_mem h
    rw [if_pos h, hj]
    simp only [Option.getD_some, chk, List.foldl_cons, List.foldl_nil, Bool.true_and, Bool.and_true, decide_eq_true_eq]
    omega
  · rw [if_neg h, pos_none.mpr h]
    simp only [Option.getD_none, chk, List.foldl_cons, List.foldl_nil, Bool.true_and, Bool.and_true, decide_eq_true_eq, List.length_append, List.length_singleton]
    omega
theorem numb_grp {xs : List α} (h1 : 1 ≤ xs.length) (h2 : xs.length ≤ 7) : Grp (numb xs) := ⟨by rw [numb_length]; exact h1, by rw [numb_length]; exact h2, (numb_chk xs).1⟩
end
/-- a grouping is its own numbering -/
theorem numb_self : ∀ xs : List Nat, chk 0 xs = true → numb xs = xs ∧ dd xs = List.range (ng xs) := by
  refine snoc_ind (fun _ => ⟨rfl, rfl⟩) fun xs y ih h => ?_
  rw [chk_append] at h
  have h' : chk 0 xs = true ∧ chk (ng xs) [y] = true := Bool.and_eq_true_iff.mp h
  obtain ⟨h1, h2⟩ := ih h'.1
  have hy : y ≤ ng xs := by simpa [chk] using h'.2
  have e : ng (xs ++ [y]) = max (ng xs) (y + 1) := by unfold ng; rw [List.foldl_append]; rfl
  rw [numb_snoc, dd_snoc, h1, h2, e]
  have pr : ∀ n y : Nat, y < n → pos y (List.range n) = some y := fun n y hn => by
    obtain ⟨j, hj, hl⟩ := pos_mem (List.mem_range.mpr hn)
    have h3 := (pos_some hj).1
    rw [List.length_range] at hl
    rw [List.getElem?_range hl] at h3
    cases h3
    exact hj
  by_cases hlt : y < ng xs
  · rw [if_pos (List.mem_range.mpr hlt), pr _ _ hlt]
    refine ⟨rfl, ?_⟩
    rw [show max (ng xs) (y + 1) = ng xs by omega]
  · have ey : y = ng xs := by omega
    subst ey
    have hn : ng xs ∉ List.range (ng xs) := fun z => absurd (List.mem_range.mp z) (Nat.lt_irrefl _)
    rw [if_neg hn, pos_none.mpr hn, List.length_range]
    refine ⟨rfl, ?_⟩
    rw [show max (ng xs) (ng xs + 1) = ng xs + 1 by omega, List.range_succ]
theorem numb_eq_iff (xs : List Nat) : numb xs = xs ↔ chk 0 xs = true := ⟨fun h => by rw [← h]; exact (numb_chk xs).1, fun h => (numb_self xs h).1⟩
end GM
namespace GM
open PySem GA GD
open Enc (enc)
abbrev nI (n : Nat) : D := .int (n : Int)
abbrev nL (xs : List Nat) : D := .list (xs.map nI)
abbrev nLL (xs : List (List Nat)) : D := .list (xs.map nL)
theorem dEq_int (a b : Int) : dEq (.int a) (.int b) = some (.bool (decide (a = b))) := dEq_enc (α := Int) (by decide) a b
theorem dNe_int (a b : Int) : dNe (.int a) (.int b) = some (.bool (!decide (a = b))) := dNe_enc (α := Int) (by decide) a b
theorem dEq_nL (a b : List Nat) : dEq (nL a) (nL b) = some (.bool (decide (a = b))) := dEq_enc (α := List Nat) (by decide) a b
theorem dNe_nL (a b : List Nat) : dNe (nL a) (nL b) = some (.bool (!decide (a = b))) := dNe_enc (α := List Nat) (by decide) a b
theorem dEq_nLL (a b : List (List Nat)) : dEq (nLL a) (nLL b) = some (.bool (decide (a = b))) := dEq_enc (α := List (List Nat)) (by decide) a b
theorem dNe_nLL (a b : List (List Nat)) : dNe (nLL a) (nLL b) = some (.bool (!decide (a = b))) := dNe_enc (α := List (List Nat)) (by decide) a b
theorem dEq_bool (a b : Bool) : dEq (.bool a) (.bool b) = some (.bool (decide (a = b))) := dEq_enc (α := Bool) (by decide) a b
theorem dIn_nL (x : Nat) (xs : List Nat) : dIn (nI x) (nL xs) = some (.bool (decide (x ∈ xs))) := dIn_enc (α := Nat) (by decide) x xs
theorem dNotIn_nL (x : Nat) (xs : List Nat) : dNotIn (nI x) (nL xs) = some (.bool (!decide (x ∈ xs))) := dNotIn_enc (α := Nat) (by decide) x xs
@[simp] theorem dBool_bool (b : Bool) : dBool (.bool b) = some b := nr rfl
@[simp] theorem dList_list (ds : List D) : dList (.list ds) = some ds := nr rfl
@[simp] theorem dLe_int (a b : Int) : dLe (.int a) (.int b) = some (.bool (decide (a ≤ b))) := nr rfl
@[simp] theorem dLt_int (a b : Int) : dLt (.int a) (.int b) = some (.bool (decide (a < b))) := nr rfl
@[simp] theorem dGe_int (a b : Int) : dGe (.int a) (.int b) = some (.bool (decide (b ≤ a))) := nr rfl
@[simp] theorem dGt_int (a b : Int) : dGt (.int a) (.int b) = some (.bool (decide (b < a))) := nr rfl
@[simp] theorem dAdd_int (a b : Int) : dAdd (.int a) (.int b) = some (.int (a + b)) := nr rfl
@[simp] theorem dSub_int (a b : Int) : dSub (.int a) (.int b) = some (.int (a - b)) := nr rfl
@[simp] theorem dLen_list (ds : List D) : dLen (.list ds :: []) = some (.int (ds.length : Nat)) := nr rfl
@[simp] theorem dMax_two (a b : Int) : dMax (.int a :: (.int b :: [])) = some (.int (if b > a then b else a)) := nr rfl
@[simp] theorem dIsNot_bool (a b : Bool) : dIsNot (.bool a) (.bool b) = some (.bool (!decide (a = b))) := nr rfl
@[simp] theorem dIs_bool (a b : Bool) : dIs (.bool a) (.bool b) = some (.bool (decide (a = b))) := nr rfl
theorem dInts_nat : ∀ xs : List Nat, dInts (xs.map nI) = some (xs.map fun (n : Nat) => (n : Int))
  | [] => rfl
  | x :: xs => by simp only [List.map_cons, dInts, dInts_nat xs, Option.map_some]
theorem dRange1_nat (n : Nat) (h : n ≤ 10000000) : dRange1 [.int (n : Int)] = some ((List.range n).map nI) := by
  have hh : ((n : Int) ≤ 10000000 ∧ -10000000 ≤ (n : Int)) := by omega
  simp only [dRange1, if_pos hh, dRng, Int.zero_add, Int.toNat_natCast]
theorem foldl_max_nat : ∀ (xs : List Nat) (m : Nat), (xs.map fun (n : Nat) => (n : Int)).foldl (fun a b => if a < b then b else a) ((m : Int) - 1) = ((xs.foldl (fun m x => max m (x + 1)) m : Nat) : Int) - 1
  | [], m => rfl
  | x :: xs, m => by
    simp only [List.map_cons, List.foldl_cons]
    rw [← foldl_max_nat xs (max m (x + 1))]
    congr 1
    split <;> omega
theorem dMax_nL (xs : List Nat) (h : xs ≠ []) : dMax (nL xs :: []) = some (.int ((ng xs : Nat) - 1 : Int)) := by
  cases xs with
  | nil => exact absurd rfl h
  | cons x xs =>
    show (dInts ((x :: xs).map nI)).bind _ = _
    rw [dInts_nat]
    show (maxI ((x : Int) :: xs.map fun (n : Nat) => (n : Int))).map _ = _
    have e : ((x : Int)) = (((x + 1 : Nat) : Int) - 1) := by omega
    show some (PyData.int ((xs.map fun (n : Nat) => (n : Int)).foldl (fun a b => if a < b then b else a) (x : Int))) = _
    rw [e, foldl_max_nat xs (x + 1)]
    unfold ng
    simp only [List.foldl_cons, Nat.zero_max]
theorem is_int_int (v lo hi : Int) : d_is_int [.int v, .int lo, .int hi] = .ok (.bool (decide (lo ≤ v) && decide (v ≤ hi))) := by
  simp only [d_is_int, dIsTy, isT, ofO_some, bind_ok, dBool_bool, if_true, Bool.not_false, dLe_int]
  cases decide (lo ≤ v) <;> simp
theorem is_grouping_fold {f : D → D → R (Stp D)} (hf : ∀ (m x : Nat), f (.int ((m : Int) - 1)) (nI x) = if x ≤ m then .ok (.nx (.int (((max m (x + 1) : Nat) : Int) - 1))) else .ok (.rt (.bool false))) : ∀ (xs : List Nat) (m : Nat), R.seqE (R.foldS some f (xs.map nI) (.int ((m : Int) - 1))) (fun _ => R.ok (.bool true)) = .ok (.bool (chk m xs))
  | [], m => rfl
  | x :: xs, m => by
    simp only [List.map_cons, R.foldS, ofO_some, bind_ok, hf]
    by_cases h : x ≤ m
    · rw [if_pos h, seq_nx, is_grouping_fold hf xs]
      simp [chk, h]
    · rw [if_neg h, seq_rt, seqE_rt]
      simp [chk, h]
theorem is_grouping_nL (xs : List Nat) : d_is_grouping [nL xs] = .ok (.bool (grpB xs)) := by
  simp only [d_is_grouping, dIsTy, isT, ofO_some, bind_ok, dBool_bool, Bool.not_true, Bool.false_eq_true, if_false, dLen_list, dLe_int, List.length_map, dList_list]
  unfold grpB
  by_cases h1 : 1 ≤ xs.length
  · have h1' : (1 : Int) ≤ (xs.length : Int) := by omega
    by_cases h2 : xs.length ≤ 7
    · have h2' : (xs.length : Int) ≤ 7 := by omega
      simp only [h1, h2, h1', h2', decide_true, if_true, ofO_some, bind_ok, dBool_bool, Bool.not_true, Bool.false_eq_true, if_false, and_self, Bool.true_and]
      refine is_grouping_fold (fun m x => ?_) xs 0
      simp only [dAdd_int, ofO_some, bind_ok, is_int_int, dBool_bool, dMax_two]
      by_cases h : x ≤ m
      · have e1 : (0 : Int) ≤ (x : Int) := by omega
        have e2 : (x : Int) ≤ (m : Int) - 1 + 1 := by omega
        simp only [e1, e2, decide_true, Bool.and_self, Bool.not_true, Bool.false_eq_true, if_false, h, if_true, ofO_some, bind_ok]
        congr 3
        split <;> omega
      · have e2 : ¬ (x : Int) ≤ (m : Int) - 1 + 1 := by omega
        simp [e2, h]
    · have h2' : ¬ (xs.length : Int) ≤ 7 := by omega
      simp [h1', h2', h2]
  · have h1' : ¬ (1 : Int) ≤ (xs.length : Int) := by omega
    simp [h1', h1]
theorem check_grouping_nL {xs : List Nat} (h : Grp xs) : d_check_grouping [nL xs] = .ok .none := by
  simp only [d_check_grouping, bind_ok, is_grouping_nL, grpB_iff.mpr h, dBool_bool, ofO_some, Bool.not_true, Bool.false_eq_true, if_false, seqE_nx]

theorem numbered_fold {α : Type} [DecidableEq α] [Enc α] (hd : Enc.dp α < 64) {f : List D × List D → D → R (List D × List D)}
    (hf : ∀ (kn : List α) (fo : List Nat) (x : α), kn.length < LIM → fo.length < LIM → f (kn.map enc, fo.map nI) (enc x) = .ok ((nst (kn, fo) x).1.map enc, (nst (kn, fo) x).2.map nI)) :
    ∀ (xs : List α) (kn : List α) (fo : List Nat), kn.length + xs.length ≤ LIM → fo.length + xs.length ≤ LIM → R.fold some f (xs.map enc) (kn.map enc, fo.map nI) = .ok ((xs.foldl nst (kn, fo)).1.map enc, (xs.foldl nst (kn, fo)).2.map nI)
  | [], kn, fo, _, _ => rfl
  | x :: xs, kn, fo, h1, h2 => by
    simp only [List.map_cons, R.fold, ofO_some, bind_ok, List.foldl_cons]
    simp only [List.length_cons] at h1 h2
    rw [hf kn fo x (by omega) (by omega), bind_ok]
    have hl : (nst (kn, fo) x).1.length ≤ kn.length + 1 ∧ (nst (kn, fo) x).2.length = fo.length + 1 := by
      unfold nst
      split <;> simp
    exact numbered_fold hd hf xs _ _ (by omega) (by omega)
theorem numbered_enc {α : Type} [DecidableEq α] [Enc α] (hd : Enc.dp α < 64) (xs : List α) (hl : xs.length ≤ LIM) : d_numbered [.list (xs.map enc)] = .ok (nL (numb xs)) := by
  simp only [d_numbered, dList_list, ofO_some, bind_ok]
  have := numbered_fold (α := α) hd (f := fun (p3 : List D × List D) (a5 : D) => (((R.ofO (dNotIn a5 (.list p3.1))).bind fun x6 => R.ofO (dBool x6)).bind fun b9 => if b9 = true then (R.ofO (dPush (p3.1) a5)).bind fun v_known11 => R.ok v_known11 else R.ok p3.1).bind fun p10 => (((R.ofO (dList (.list p10))).bind fun ds14 => R.ofO (dIndex ds14 a5)).bind fun x17 => R.ofO (dPush (p3.2) x17)).bind fun v_found16 => R.ok (p10, v_found16)) ?_ xs [] [] (by simpa using hl) (by simpa using hl)
  · simp only [dList_list, ofO_some, bind_ok, List.map_nil] at this
    rw [this]
    rfl
  · intro kn fo x h1 h2
    have l1 : (fo.map nI).length < LIM := by simpa using h2
    have l2 : (kn.map (enc (α := α))).length < LIM := by simpa using h1
    simp only [dNotIn_enc hd, ofO_some, bind_ok, dBool_bool, dList_list]
    unfold nst
    cases e : pos x kn with
    | some j =>
      have hm : x ∈ kn := List.mem_of_getElem? (pos_some e).1
      simp [hm, dIndex_enc hd, e, dPush, h2]
    | none =>
      have hm := pos_none.mp e
      have e2 : pos x (kn ++ [x]) = some kn.length := pos_new hm
      have e3 : kn.map enc ++ [enc x] = (kn ++ [x]).map enc := by simp
      simp only [hm, decide_false, Bool.not_false, if_true, dPush, l2, ofO_some, bind_ok]
      rw [e3, dIndex_enc hd, e2]
      simp [h2]
theorem numbered_nL (xs : List Nat) (hl : xs.length ≤ LIM) : d_numbered [nL xs] = .ok (nL (numb xs)) := numbered_enc (α := Nat) (by decide) xs hl
/-- the groups -/
def grps (row : List Nat) : List (List Nat) := (List.range (ng row)).map fun g => (List.range row.length).filter fun k => decide (row.getD k 0 = g)
theorem dAt_nL {row : List Nat} {k : Nat} (h : k < row.length) : dAt (nL row) (nI k) = some (nI (row.getD k 0)) := by
  rw [dAt_nat row nI k h]
  simp [List.getD_eq_getElem?_getD, List.getElem?_eq_getElem h]
theorem groups_of_core {row : List Nat} (h0 : row ≠ []) (hl : row.length ≤ 1000) (hn : ng row ≤ 1000) {r : R D}
    (hr : r = (((((R.ofO (dMax (nL row :: []))).bind fun x4 => R.ofO (dAdd x4 (.int 1))).bind fun d6 => R.ok (d6 :: [])).bind fun ds8 => R.ofO (dRange1 ds8)).bind fun ds24 => R.comp some (fun _ => R.ok true) (fun a9 => ((((R.ofO (dLen (nL row :: []))).bind fun d13 => R.ok (d13 :: [])).bind fun ds15 => R.ofO (dRange1 ds15)).bind fun ds22 => R.comp some (fun a16 => ((R.ofO (dAt (nL row) a16)).bind fun x20 => R.ofO (dEq x20 a9)).bind fun x17 => R.ofO (dBool x17)) (fun a16 => R.ok (a16)) ds22).bind fun ds23 => R.ok (.list ds23)) ds24).bind fun ds25 => R.ok (.list ds25)) :
    r = .ok (nLL (grps row)) := by
  subst hr
  simp only [dMax_nL row h0, ofO_some, bind_ok, dAdd_int, dLen_list, List.length_map]
  have e : ((ng row : Nat) : Int) - 1 + 1 = ((ng row : Nat) : Int) := by omega
  rw [e]
  rw [dRange1_nat _ (by omega), dRange1_nat _ (by omega)]
  simp only [ofO_some, bind_ok]
  rw [comp_map (List.range (ng row)) nI some nI _ (fun g => nL ((List.range row.length).filter fun k => decide (row.getD k 0 = g))) (fun _ _ => rfl) fun g hg => ?_]
  · simp [grps]
  · rw [comp_ok (List.range row.length) nI some nI _ (fun k => decide (row.getD k 0 = g)) _ nI (fun _ _ => rfl) (fun k hk => ?_) (fun _ _ _ => rfl)]
    · rfl
    · rw [dAt_nL (List.mem_range.mp hk)]
      simp only [ofO_some, bind_ok, dEq_int, dBool_bool]
      congr 1
      exact decide_eq_decide.mpr (by omega)
theorem ng_le {row : List Nat} {n : Nat} (h : ∀ x, x ∈ row → x < n) : ng row ≤ n := by
  unfold ng
  have key : ∀ (xs : List Nat) (m : Nat), m ≤ n → (∀ x, x ∈ xs → x < n) → xs.foldl (fun m x => max m (x + 1)) m ≤ n := by
    intro xs
    induction xs with
    | nil => intro m hm _; exact hm
    | cons x xs ih =>
      intro m hm hx
      rw [List.foldl_cons]
      refine ih _ ?_ fun z hz => hx z (List.mem_cons_of_mem _ hz)
      have := hx x List.mem_cons_self
      omega
  exact key row 0 (Nat.zero_le _) h
theorem chk_ng : ∀ (xs : List Nat) (m : Nat), chk m xs = true → xs.foldl (fun m x => max m (x + 1)) m ≤ m + xs.length
  | [], m, _ => by simp
  | x :: xs, m, h => by
    have h' : x ≤ m ∧ chk (max m (x + 1)) xs = true := by simpa [chk] using h
    have := chk_ng xs _ h'.2
    rw [List.foldl_cons, List.length_cons]
    omega
theorem Grp.ng_le {row : List Nat} (h : Grp row) : ng row ≤ row.length := by
  have := chk_ng row 0 h.2.2
  unfold ng
  omega
theorem Grp.ne {row : List Nat} (h : Grp row) : row ≠ [] := fun z => by
  have := h.1
  rw [z] at this
  simp at this
theorem groups_of_nL {row : List Nat} (h : Grp row) : d_groups_of [nL row] = .ok (nLL (grps row)) :=
  groups_of_core h.ne (by have := h.2.1; omega) (by have := h.ng_le; have := h.2.1; omega) rfl
theorem law_groups_nL {row : List Nat} (h : Grp row) : d_law_groups [nL row] = .ok (nLL (grps row)) :=
  groups_of_core h.ne (by have := h.2.1; omega) (by have := h.ng_le; have := h.2.1; omega) rfl






theorem fold_range {β : Type} (f : β → D → R β) (S : Nat → β) : ∀ (n : Nat), (∀ k, k < n → f (S k) (nI k) = .ok (S (k + 1))) → R.fold some f ((List.range n).map nI) (S 0) = .ok (S n) := by
  have app : ∀ (xs ys : List D) (s t : β), R.fold some f xs s = .ok t → R.fold some f (xs ++ ys) s = R.fold some f ys t := by
    intro xs
    induction xs with
    | nil => intro ys s t h; cases h; rfl
    | cons x xs ih =>
      intro ys s t h
      rw [List.cons_append]
      simp only [R.fold, ofO_some, bind_ok] at h ⊢
      cases e : f s x with
      | ok u => rw [e] at h; exact ih ys u t h
      | err k => rw [e] at h; cases h
      | bad => rw [e] at h; cases h
  intro n
  induction n with
  | zero => intro _; rfl
  | succ n ih =>
    intro h
    rw [List.range_succ, List.map_append, app _ _ _ _ (ih fun k hk => h k (Nat.lt_succ_of_lt hk))]
    simp only [List.map_cons, List.map_nil, R.fold, ofO_some, bind_ok, h n (Nat.lt_succ_self n)]
theorem numb_map {α β : Type} [DecidableEq α] [DecidableEq β] (f : α → β) : ∀ xs : List α, (∀ x y, x ∈ xs → y ∈ xs → f x = f y → x = y) → dd (xs.map f) = (dd xs).map f ∧ numb (xs.map f) = numb xs := by
  refine snoc_ind (fun _ => ⟨rfl, rfl⟩) fun xs y ih h => ?_
  obtain ⟨h1, h2⟩ := ih fun a b ha hb => h a b (List.mem_append_left _ ha) (List.mem_append_left _ hb)
  have hp : ∀ ds : List α, (∀ z, z ∈ ds → z ∈ xs) → pos (f y) (ds.map f) = pos y ds := by
    intro ds
    induction ds with
    | nil => intro _; rfl
    | cons z zs ih2 =>
      intro hz
      rw [List.map_cons]
      unfold pos
      rw [ih2 fun w hw => hz w (List.mem_cons_of_mem _ hw)]
      by_cases e : z = y
      · rw [if_pos e, if_pos (by rw [e])]
      · rw [if_neg e, if_neg fun q => e (h z y (List.mem_append_left _ (hz z List.mem_cons_self)) (List.mem_append_right _ (List.mem_singleton.mpr rfl)) q)]
  have hp' := hp (dd xs) fun z hz => (mem_dd z xs).mp hz
  rw [List.map_append, List.map_cons, List.map_nil, dd_snoc, numb_snoc, dd_snoc, numb_snoc, h1, h2, hp', List.length_map]
  refine ⟨?_, rfl⟩
  by_cases e : y ∈ dd xs
  · rw [if_pos e, if_pos (List.mem_map.mpr ⟨y, e, rfl⟩)]
  · rw [if_neg e, if_neg, List.map_append]
    · rfl
    · exact pos_none.mp (hp'.trans (pos_none.mpr e))
theorem dMax_neg (xs : List Nat) : dMax (.list (.int (0 - 1) :: xs.map nI) :: []) = some (.int ((ng xs : Nat) - 1 : Int)) := by
  show (dInts (.int (0 - 1) :: xs.map nI)).bind _ = _
  simp only [dInts, dInts_nat, Option.map_some]
  show some (PyData.int ((xs.map fun (n : Nat) => (n : Int)).foldl (fun a b => if a < b then b else a) (0 - 1))) = _
  have := foldl_max_nat xs 0
  rw [show (((0 : Nat) : Int) - 1) = (0 - 1 : Int) from rfl] at this
  rw [this]
  rfl
theorem law_numbered_nL (xs : List Nat) (hl : xs.length ≤ 1000) : d_law_numbered [nL xs] = .ok (nL (numb xs)) := by
  simp only [d_law_numbered, dLen_list, List.length_map, ofO_some, bind_ok]
  rw [dRange1_nat _ (by omega)]
  simp only [ofO_some, bind_ok, dList_list]
  refine (congrArg (fun r => R.bind r fun p2 => R.ok (PyData.list p2 : D)) (fold_range _ (fun k => (numb (xs.take k)).map nI) xs.length fun k hk => ?_)).trans ?_
  rotate_left
  · simp only [bind_ok, List.take_length]
  · have hx : xs[k]? = some xs[k] := List.getElem?_eq_getElem hk
    have ht : xs.take (k + 1) = xs.take k ++ [xs[k]] := by rw [List.take_add_one, hx]; rfl
    have hat : dAt (nL xs) (nI k) = some (nI xs[k]) := dAt_nat xs nI k hk
    have hlk : (xs.take k).length = k := by rw [List.length_take]; omega
    have hnl : ((numb (xs.take k)).map nI).length < LIM := by rw [List.length_map, numb_length, hlk]; unfold LIM; omega
    rw [hat]
    simp only [ofO_some, bind_ok]
    rw [show dIndex (xs.map nI) (nI xs[k]) = _ from dIndex_enc (α := Nat) (by decide) xs[k] xs]
    rw [ht, numb_snoc]
    have hsp : xs = xs.take k ++ xs[k] :: xs.drop (k + 1) := by
      rw [← List.drop_eq_getElem_cons hk, List.take_append_drop]
    by_cases hm : xs[k] ∈ xs.take k
    · have e1 : pos xs[k] xs = pos xs[k] (xs.take k) := (congrArg (pos xs[k]) hsp).trans (pos_append hm)
      obtain ⟨j, hj, hjl⟩ := pos_mem hm
      rw [hlk] at hjl
      have hn := numb_get _ _ _ (pos_some hj).1
      have hjn : j < (numb (xs.take k)).length := by rw [numb_length, hlk]; exact hjl
      have hat2 : dAt (.list ((numb (xs.take k)).map nI)) (nI j) = some (nI (numb (xs.take k))[j]) := dAt_nat (numb (xs.take k)) nI j hjn
      have hlt : ((j : Int) < (k : Int)) := by omega
      rw [List.getElem?_eq_getElem hjn] at hn
      simp only [e1, hj, Option.map_some, ofO_some, bind_ok, dLt_int, hlt, decide_true, dBool_bool, if_true, hat2, dPush, hnl, ← hn, Option.getD_some, List.map_append, List.map_cons, List.map_nil]
    · have e1 : pos xs[k] xs = some (xs.take k).length := (congrArg (pos xs[k]) hsp).trans (pos_new hm)
      have e2 : pos xs[k] (dd (xs.take k)) = none := pos_none.mpr fun z => hm ((mem_dd _ _).mp z)
      rw [e1, e2, hlk]
      simp only [Option.map_some, ofO_some, bind_ok, dLt_int, Int.lt_irrefl, decide_false, dBool_bool, Bool.false_eq_true, if_false, dSub_int]
      have ea : dAdd (.list [.int (0 - 1)]) (.list ((numb (xs.take k)).map nI)) = some (.list (.int (0 - 1) :: (numb (xs.take k)).map nI)) := by
        have : ([PyData.int (0 - 1)] : List D).length + ((numb (xs.take k)).map nI).length ≤ LIM := by
          simp only [List.length_singleton]; omega
        exact if_pos this
      simp only [ea, ofO_some, bind_ok, dMax_neg, dAdd_int, dPush, hnl, if_true, Option.getD_none, (numb_chk (xs.take k)).2, List.map_append, List.map_cons, List.map_nil]
      congr 4
      show (_ : Int) = _
      omega
theorem sort_range {xs : List Nat} {n : Nat} (h : xs.Perm (List.range n)) : sortI (xs.map fun (k : Nat) => (k : Int)) = (List.range n).map fun (k : Nat) => (k : Int) := by
  refine sorted_unique ((sortI_perm _).trans (h.map _)) (sortI_sorted _) ?_
  rw [List.pairwise_map]
  exact List.pairwise_lt_range.imp fun h => by omega
theorem allB_true {α : Type} : ∀ (ys : List α), dAll [.list (ys.map fun _ => .bool true)] = some (.bool true) := fun ys => by
  have e : ∀ ys : List α, dBools (ys.map fun _ => PyData.bool true) = some (ys.map fun _ => true) := fun ys => by
      induction ys with
      | nil => rfl
      | cons y ys ih => simp only [List.map_cons, dBools, ih, Option.map_some]
  have e' : ∀ ys : List α, (ys.map fun _ => true).all id = true := fun ys => by simp
  simp only [dAll, e, Option.map_some, e']
theorem flat_fold : ∀ (ps : List (List Nat)) (s : List Nat), s.length + ps.flatten.length ≤ LIM → R.fold some (fun (p23 : D) (a25 : D) => (R.ofO (dAdd p23 a25)).bind fun v_things26 => R.ok v_things26) (ps.map nL) (nL s) = .ok (nL (s ++ ps.flatten))
  | [], s, _ => by simp [R.fold]
  | p :: ps, s, h => by
    rw [List.flatten_cons, List.length_append] at h
    have ea : dAdd (nL s) (nL p) = some (nL (s ++ p)) := by
      have : (s.map nI).length + (p.map nI).length ≤ LIM := by rw [List.length_map, List.length_map]; omega
      show (if (s.map nI).length + (p.map nI).length ≤ LIM then some (PyData.list (s.map nI ++ p.map nI)) else none) = _
      rw [if_pos this]
      simp only [nL, List.map_append]
    simp only [List.map_cons, R.fold, ofO_some, bind_ok, ea]
    rw [flat_fold ps (s ++ p) (by rw [List.length_append]; omega), List.flatten_cons, List.append_assoc]
theorem filter_one {m : Nat} {g : Nat} (h : g < m) (p : Nat → Bool) (hp : ∀ i, i < m → (p i = true ↔ g = i)) : (List.range m).filter p = [g] := by
  have e : (List.range m).filter p = (List.range m).filter fun i => decide (g = i) := List.filter_congr fun i hi => by
    rw [Bool.eq_iff_iff, hp i (List.mem_range.mp hi), decide_eq_true_eq]
  rw [e]
  clear e hp
  induction m with
  | zero => omega
  | succ m ih =>
    rw [List.range_succ, List.filter_append]
    by_cases hg : g < m
    · rw [ih hg]
      have : ¬ g = m := by omega
      simp [this]
    · have : g = m := by omega
      subst this
      have : (List.range g).filter (fun i => decide (g = i)) = [] := List.filter_eq_nil_iff.mpr fun i hi => by
        have := List.mem_range.mp hi
        simp; omega
      simp [this]
theorem grouping_of_core {n m : Nat} (hn1 : 1 ≤ n) (hn2 : n ≤ 7) (hm : m ≤ 7) (Q : Nat → List Nat) (lab : Nat → Nat) (hne : ∀ i, i < m → Q i ≠ []) (hlab : ∀ k, k < n → lab k < m ∧ ∀ i, i < m → (k ∈ Q i ↔ lab k = i)) (hp : ((List.range m).map Q).flatten.Perm (List.range n)) :
    d_grouping_of [nLL ((List.range m).map Q)] = .ok (nL (numb ((List.range n).map lab))) := by
  simp only [d_grouping_of, dIsTy, isT, ofO_some, bind_ok, dBool_bool, Bool.not_true, Bool.false_eq_true, if_false, dList_list]
  rw [comp_map ((List.range m).map Q) nL some nL _ (fun _ => .bool true) (fun _ _ => rfl) fun g hg => ?_]
  rotate_left
  · obtain ⟨i, hi, rfl⟩ := List.mem_map.mp hg
    have : ¬ Q i = [] := hne i (List.mem_range.mp hi)
    simp only [if_true]
    rw [show (PyData.list [] : D) = nL [] from rfl, dNe_nL]
    simp [this]
  simp only [bind_ok, allB_true, ofO_some, dBool_bool, Bool.not_true, Bool.false_eq_true, if_false]
  have hfl : ((List.range m).map Q).flatten.length = n := by rw [hp.length_eq, List.length_range]
  rw [show (PyData.list [] : D) = nL [] from rfl, flat_fold _ _ (by rw [hfl]; unfold LIM; simp; omega)]
  simp only [bind_ok, List.nil_append, dLen_list, List.length_map, hfl, ofO_some, dLe_int]
  have e1 : (1 : Int) ≤ (n : Int) := by omega
  have e2 : (n : Int) ≤ 7 := by omega
  simp only [e1, e2, decide_true, dBool_bool, if_true, ofO_some, bind_ok, Bool.not_true, Bool.false_eq_true, if_false, dList_list]
  rw [comp_map _ nI some nI _ (fun _ => .bool true) (fun _ _ => rfl) fun x hx => ?_]
  rotate_left
  · have := List.mem_range.mp (hp.mem_iff.mp hx)
    have a1 : (0 : Int) ≤ (x : Int) := by omega
    have a2 : (x : Int) ≤ 6 := by omega
    simp only [bind_ok, is_int_int, a1, a2, decide_true, Bool.and_self]
  simp only [bind_ok, allB_true, ofO_some, dBool_bool, Bool.not_true, Bool.false_eq_true, if_false]
  rw [dRange1_nat _ (by omega)]
  simp only [dSortA, dInts_nat, Option.map_some, ofO_some, bind_ok, sort_range hp, List.map_map]
  rw [show ((List.range n).map (PyData.int ∘ fun (k : Nat) => (k : Int))) = (List.range n).map nI from rfl, show (PyData.list ((List.range n).map nI) : D) = nL (List.range n) from rfl, dNe_nL]
  simp only [decide_true, Bool.not_true, ofO_some, bind_ok, dBool_bool, Bool.false_eq_true, if_false]
  rw [comp_map (List.range n) nI some nI _ (fun k => nI (lab k)) (fun _ _ => rfl) fun k hk => ?_]
  rotate_left
  · have hk := List.mem_range.mp hk
    obtain ⟨hl1, hl2⟩ := hlab k hk
    have ez : dEnum (nLL ((List.range m).map Q) :: []) = some ((List.range m).map fun i => .tuple [nI i, nL (Q i)]) := by
      show some _ = some _
      congr 1
      apply List.ext_getElem
      · simp
      · intro j h1 h2
        simp
    have hc := comp_ok (List.range m) (fun i => PyData.tuple [nI i, nL (Q i)]) dPair (fun i => (nI i, nL (Q i))) (fun a78 => (R.ofO (dIn (nI k) a78.2)).bind fun x79 => R.ofO (dBool x79)) (fun i => decide (k ∈ Q i)) (fun a78 => R.ok a78.1) (fun i => nI i) (fun _ _ => rfl) (fun i hi => by simp only [dIn_nL, ofO_some, bind_ok, dBool_bool]) (fun _ _ _ => rfl)
    rw [ez]
    simp only [ofO_some, bind_ok]
    rw [hc, filter_one hl1 _ fun i hi => by rw [decide_eq_true_eq]; exact hl2 i hi]
    rfl
  simp only [bind_ok]
  have := numbered_nL ((List.range n).map lab) (by simp; unfold LIM; omega)
  simp only [nL, List.map_map] at this ⊢
  exact this
theorem lt_ng {row : List Nat} {x : Nat} (h : x ∈ row) : x < ng row := by
  have mono : ∀ (xs : List Nat) (m : Nat), m ≤ xs.foldl (fun m x => max m (x + 1)) m := by
    intro xs
    induction xs with
    | nil => intro m; exact Nat.le_refl _
    | cons y ys ih => intro m; rw [List.foldl_cons]; have := ih (max m (y + 1)); omega
  have key : ∀ (xs : List Nat) (m : Nat), x ∈ xs → x < xs.foldl (fun m x => max m (x + 1)) m := by
    intro xs
    induction xs with
    | nil => intro m h; cases h
    | cons y ys ih =>
      intro m h
      rw [List.foldl_cons]
      rcases List.mem_cons.mp h with rfl | h
      · have := mono ys (max m (x + 1)); omega
      · exact ih _ h
  exact key row 0 h
theorem getD_mem {row : List Nat} {k : Nat} (h : k < row.length) : row.getD k 0 ∈ row := by
  rw [List.getD_eq_getElem?_getD, List.getElem?_eq_getElem h]
  exact List.getElem_mem h
/-- every number below ng is met -/
theorem chk_onto {row : List Nat} (h : chk 0 row = true) {g : Nat} (hg : g < ng row) : g ∈ row := by
  have := (numb_self row h).2
  have h2 := (mem_dd g row)
  rw [this] at h2
  exact h2.mp (List.mem_range.mpr hg)
theorem Grp.grp_ne {row : List Nat} (h : Grp row) {g : Nat} (hg : g < ng row) : ((List.range row.length).filter fun k => decide (row.getD k 0 = g)) ≠ [] := fun z => by
  obtain ⟨k, hk, e⟩ := List.getElem_of_mem (chk_onto h.2.2 hg)
  have : k ∈ (List.range row.length).filter fun k => decide (row.getD k 0 = g) := List.mem_filter.mpr ⟨List.mem_range.mpr hk, by simp [List.getD_eq_getElem?_getD, List.getElem?_eq_getElem hk, e]⟩
  rw [z] at this
  cases this
theorem map_getD (row : List Nat) : (List.range row.length).map (fun k => row.getD k 0) = row := by
  apply List.ext_getElem
  · simp
  · intro j h1 h2
    simp [List.getD_eq_getElem?_getD, List.getElem?_eq_getElem h2]
/-- parts that are the groups, in any order of parts and of things -/
theorem grouping_of_any {row : List Nat} (h : Grp row) (Q : Nat → List Nat) (f : Nat → Nat) (hf : ∀ g, g < ng row → f g < ng row) (hi : ∀ g g', g < ng row → g' < ng row → f g = f g' → g = g') (hs : ∀ i, i < ng row → ∃ g, g < ng row ∧ f g = i)
    (hQ : ∀ g, g < ng row → (Q (f g)).Perm ((List.range row.length).filter fun k => decide (row.getD k 0 = g))) : d_grouping_of [nLL ((List.range (ng row)).map Q)] = .ok (nL row) := by
  have hmem : ∀ i k, i < ng row → (k ∈ Q i ↔ k < row.length ∧ f (row.getD k 0) = i) := fun i k hi' => by
    obtain ⟨g, hg, rfl⟩ := hs i hi'
    rw [(hQ g hg).mem_iff, List.mem_filter, List.mem_range, decide_eq_true_eq]
    refine and_congr_right fun hk => ⟨fun z => by rw [z], fun z => hi _ _ (lt_ng (getD_mem hk)) hg z⟩
  refine (grouping_of_core h.1 h.2.1 (Nat.le_trans h.ng_le h.2.1) Q (fun k => f (row.getD k 0)) (fun i hi' => ?_) (fun k hk => ⟨hf _ (lt_ng (getD_mem hk)), fun i hi' => by rw [hmem i k hi']; exact ⟨fun z => z.2, fun z => ⟨hk, z⟩⟩⟩) ?_).trans ?_
  rotate_right
  · have : (List.range row.length).map (fun k => f (row.getD k 0)) = row.map f := by
      conv => rhs; rw [← map_getD row, List.map_map]
      rfl
    rw [this, (numb_map f row fun x y hx hy => hi x y (lt_ng hx) (lt_ng hy)).2, (numb_self row h.2.2).1]
  · obtain ⟨g, hg, rfl⟩ := hs i hi'
    intro z
    have := (hQ g hg).length_eq
    rw [z] at this
    exact h.grp_ne hg (List.eq_nil_of_length_eq_zero this.symm)
  · refine (List.perm_ext_iff_of_nodup ?_ List.nodup_range).mpr fun k => ?_
    · show List.Pairwise _ _
      rw [List.pairwise_flatten]
      refine ⟨fun l hl => ?_, ?_⟩
      · obtain ⟨i, hi', rfl⟩ := List.mem_map.mp hl
        obtain ⟨g, hg, rfl⟩ := hs i (List.mem_range.mp hi')
        exact ((hQ g hg).nodup_iff).mpr (List.Pairwise.filter _ List.nodup_range)
      · rw [List.pairwise_map]
        refine List.Pairwise.imp_of_mem ?_ List.pairwise_lt_range
        intro a b ha hb hab x hx y hy e
        subst e
        have h1 := (hmem a x (List.mem_range.mp ha)).mp hx
        have h2 := (hmem b x (List.mem_range.mp hb)).mp hy
        omega
    · rw [List.mem_flatten, List.mem_range]
      constructor
      · rintro ⟨l, hl, hk⟩
        obtain ⟨i, hi', rfl⟩ := List.mem_map.mp hl
        exact ((hmem i k (List.mem_range.mp hi')).mp hk).1
      · intro hk
        have hl := hf _ (lt_ng (getD_mem hk))
        exact ⟨Q (f (row.getD k 0)), List.mem_map.mpr ⟨_, List.mem_range.mpr hl, rfl⟩, (hmem _ k hl).mpr ⟨hk, rfl⟩⟩
theorem grouping_of_grps {row : List Nat} (h : Grp row) : d_grouping_of [nLL (grps row)] = .ok (nL row) :=
  grouping_of_any h _ id (fun _ h => h) (fun _ _ _ _ h => h) (fun i h => ⟨i, h, rfl⟩) fun g hg => .refl _
theorem rev_range (n : Nat) : (List.range n).reverse = (List.range n).map fun i => n - 1 - i := by
  apply List.ext_getElem
  · simp
  · intro j h1 h2
    simp
theorem grouping_of_mixed {row : List Nat} (h : Grp row) : d_grouping_of [nLL ((grps row).reverse.map List.reverse)] = .ok (nL row) := by
  unfold grps
  rw [← List.map_reverse, rev_range, List.map_map, List.map_map]
  refine grouping_of_any h _ (fun g => ng row - 1 - g) (fun g h => by omega) (fun g g' h h' z => by omega) (fun i h => ⟨ng row - 1 - i, by omega, by omega⟩) fun g hg => ?_
  have key : ∀ j, j = g → ((List.range row.length).filter fun k => decide (row.getD k 0 = j)).reverse.Perm ((List.range row.length).filter fun k => decide (row.getD k 0 = g)) := by
    rintro _ rfl
    exact List.reverse_perm _
  exact key _ (by show ng row - 1 - (ng row - 1 - g) = g; omega)
theorem ints_nat : ∀ (rs : List Int), (∀ r, r ∈ rs → 0 ≤ r) → ∃ ns : List Nat, rs = ns.map fun (n : Nat) => (n : Int)
  | [], _ => ⟨[], rfl⟩
  | r :: rs, h => by
    obtain ⟨ns, hn⟩ := ints_nat rs fun z hz => h z (List.mem_cons_of_mem _ hz)
    have := h r List.mem_cons_self
    exact ⟨r.toNat :: ns, by rw [List.map_cons, ← hn, Int.toNat_of_nonneg this]⟩
theorem wdraw_nat {w : Nat} (hw : 0 < w ∧ w < 1000) {P : D → Prop} {E : Nat → Prop} (h : ∀ r : Nat, r < w → P (nI r)) : (wDraw [.int (w : Int)]).run P E := by
  refine ⟨⟨by omega, by omega⟩, fun r h0 h1 => ?_⟩
  have := h r.toNat (by omega)
  rwa [nI, Int.toNat_of_nonneg h0] at this
theorem wdraw_lit (w : Int) (hw : 0 < w ∧ w < 1000) {P : D → Prop} {E : Nat → Prop} (h : ∀ r : Nat, (r : Int) < w → P (nI r)) : (wDraw [.int w]).run P E := by
  refine ⟨⟨by omega, by omega⟩, fun r h0 h1 => ?_⟩
  have := h r.toNat (by omega)
  rwa [nI, Int.toNat_of_nonneg h0] at this
theorem wcomp_any {α : Type} (S : α → Prop) (f : α → D) (y : D → WP D) : ∀ (ds : List D) (P : List D → Prop) (E : Nat → Prop), (∀ d, d ∈ ds → ∀ (P : D → Prop) (E : Nat → Prop), (∀ r : α, S r → P (f r)) → (y d).run P E) → (∀ rs : List α, rs.length = ds.length → (∀ r, r ∈ rs → S r) → P (rs.map f)) → (WP.comp some (fun _ => WP.ret true) y ds).run P E
  | [], P, E, hy, h => h [] rfl (fun _ z => nomatch z)
  | d :: ds, P, E, hy, h => by
    show (y d).noE.run (fun z => ((WP.comp some (fun _ => WP.ret true) y ds).bind fun zs => .ret (z :: zs)).run P E) E
    refine hy d List.mem_cons_self _ _ fun r hr => ?_
    show (WP.comp some (fun _ => WP.ret true) y ds).run _ _
    refine wcomp_any S f y ds _ _ (fun d hd => hy d (List.mem_cons_of_mem _ hd)) fun rs hl hs => h (r :: rs) (by simp [hl]) fun z hz => ?_
    rcases List.mem_cons.mp hz with rfl | hz
    · exact hr
    · exact hs z hz
@[simp] theorem opt_some {α : Type} (a : α) : WP.opt (some a) = WP.ret a := nr rfl
@[simp] theorem lift_ok' {α : Type} (a : α) : WP.lift (R.ok a) = WP.ret a := nr rfl
@[simp] theorem ret_bind {α β : Type} (a : α) (f : α → WP β) : (WP.ret a).bind f = f a := nr rfl
theorem dRange1_int {n : Nat} (h : n ≤ 10000000) : dRange1 [nI n] = some ((List.range n).map nI) := dRange1_nat n h
theorem optR {α : Type} {o : Option α} {P : α → Prop} {E : Nat → Prop} (a : α) (h : o = some a) (p : P a) : (WP.opt o).run P E := by rw [h]; exact p
theorem retR {α : Type} {a : α} {P : α → Prop} {E : Nat → Prop} (p : P a) : (WP.ret a).run P E := p
theorem stp {α β : Type} {m : WP α} {f : α → WP β} {P : β → Prop} {E : Nat → Prop} (a : α) (h : m = .ret a) (k : (f a).run P E) : (m.bind f).run P E := by
  rw [h]; exact k
theorem chkF {β : Type} {m : WP Bool} {A B : WP β} {P : β → Prop} {E : Nat → Prop} (h : m = .ret false) (k : B.run P E) : (m.bind fun b => if b = true then A else B).run P E := by
  rw [h]; exact k
theorem liftR {α : Type} {r : R α} {P : α → Prop} {E : Nat → Prop} (a : α) (h : r = .ok a) (p : P a) : (WP.lift r).run P E := by rw [h]; exact p
theorem lstp {α β : Type} {r : R α} {f : α → WP β} {P : β → Prop} {E : Nat → Prop} (a : α) (h : r = .ok a) (k : (f a).run P E) : ((WP.lift r).bind f).run P E := by
  rw [h]; exact k
theorem lchk {β : Type} {r : R Bool} {A B : WP β} {P : β → Prop} {E : Nat → Prop} (h : r = .ok false) (k : B.run P E) : ((WP.lift r).bind fun b => if b = true then A else B).run P E := by
  rw [h]; exact k
theorem drawLen {β : Type} {ds : List D} {f : D → WP β} {P : β → Prop} {E : Nat → Prop} (h : 0 < ds.length ∧ ds.length < 1000) (k : ∀ r : Nat, r < ds.length → (f (nI r)).run P E) : ((((WP.opt (dLen (.list ds :: []))).bind fun d => WP.ret (d :: [])).bind wDraw).bind f).run P E :=
  show (wDraw [nI ds.length]).run (fun a => (f a).run P E) E from wdraw_nat h k
theorem drawLit {β : Type} {f : D → WP β} {P : β → Prop} {E : Nat → Prop} (w : Int) (hw : 0 < w ∧ w < 1000) (k : ∀ r : Nat, (r : Int) < w → (f (nI r)).run P E) : (((WP.ret ((.int w) :: [])).bind wDraw).bind f).run P E :=
  show (wDraw [.int w]).run (fun a => (f a).run P E) E from wdraw_lit w hw k
theorem drawPlus {β : Type} {f : D → WP β} {P : β → Prop} {E : Nat → Prop} (c : Nat) (w : Int) (hw : 0 < w ∧ w < 1000) (k : ∀ r : Nat, (r : Int) < w → (f (nI (c + r))).run P E) : ((((WP.ret ((.int w) :: [])).bind wDraw).bind fun x => WP.opt (dAdd (nI c) x)).bind f).run P E := by
  rw [run_bind, run_bind]
  refine wdraw_lit w hw fun r hr => optR (nI (c + r)) ?_ (k r hr)
  rw [dAdd_int]
  congr 2
theorem law_pick_any {α : Type} {xs : List α} {e : α → D} (h : 0 < xs.length ∧ xs.length < 1000) {P : D → Prop} {E : Nat → Prop} (hp : ∀ x, x ∈ xs → P (e x)) : (d_law_pick [.list (xs.map e)]).run P E := by
  simp only [d_law_pick, dLen_list, List.length_map, opt_some, ret_bind]
  rw [run_bind]
  refine wdraw_nat h fun r hr => ?_
  rw [show dAt (.list (xs.map e)) (nI r) = some (e xs[r]) from dAt_nat xs e r hr]
  exact hp _ (List.getElem_mem hr)
theorem pickB {α β : Type} {xs : List α} {e : α → D} {f : D → WP β} (h : 0 < xs.length ∧ xs.length < 1000) {P : β → Prop} {E : Nat → Prop} (hp : ∀ x, x ∈ xs → (f (e x)).run P E) : (((WP.ret (.list (xs.map e) :: [])).bind d_law_pick).bind f).run P E :=
  show (d_law_pick [.list (xs.map e)]).run (fun a => (f a).run P E) E from law_pick_any h hp
theorem law_pick_run {xs : List Nat} (h : 0 < xs.length ∧ xs.length < 1000) {P : D → Prop} {E : Nat → Prop} (hp : ∀ x, x ∈ xs → P (nI x)) : (d_law_pick [nL xs]).run P E := by
  simp only [d_law_pick, dLen_list, List.length_map, opt_some, ret_bind]
  rw [run_bind]
  refine wdraw_nat h fun r hr => ?_
  rw [show dAt (nL xs) (nI r) = some (nI xs[r]) from dAt_nat xs nI r hr]
  exact hp _ (List.getElem_mem hr)
theorem law_grouping_run {n : Nat} (h1 : 1 ≤ n) (h2 : n ≤ 7) {P : D → Prop} {E : Nat → Prop} (hp : ∀ row, Grp row → row.length = n → P (nL row)) : (d_law_grouping [nI n]).run P E := by
  simp only [d_law_grouping, ret_bind]
  show (d_law_pick [nL [2, 3, 7]]).run _ _
  refine law_pick_run (by decide) fun w hw => ?_
  rw [dRange1_int (by omega)]
  simp only [opt_some, ret_bind]
  have hw' : 0 < w ∧ w < 1000 := by
    simp only [List.mem_cons, List.not_mem_nil, or_false] at hw
    omega
  refine wcomp_any (fun r => r < w) nI _ _ _ _ (fun d _ P E h => wdraw_nat hw' h) fun rs hl hr => ?_
  rw [List.length_map, List.length_range] at hl
  show (WP.lift (d_law_numbered [nL rs])).run P E
  rw [law_numbered_nL rs (by omega)]
  exact hp _ (numb_grp (by omega) (by omega)) (by rw [numb_length, hl])
section
variable {α : Type} [DecidableEq α] [Enc α]
theorem dIn_mem (hd : Enc.dp α < 64) {x : α} {xs : List α} (h : x ∈ xs) : dIn (enc x) (.list (xs.map enc)) = some (.bool true) := by rw [dIn_enc hd, decide_eq_true h]
theorem dIn_not (hd : Enc.dp α < 64) {x : α} {xs : List α} (h : x ∉ xs) : dIn (enc x) (.list (xs.map enc)) = some (.bool false) := by rw [dIn_enc hd, decide_eq_false h]
theorem dNotIn_mem (hd : Enc.dp α < 64) {x : α} {xs : List α} (h : x ∈ xs) : dNotIn (enc x) (.list (xs.map enc)) = some (.bool false) := by rw [dNotIn_enc hd, decide_eq_true h]; rfl
theorem dNotIn_not (hd : Enc.dp α < 64) {x : α} {xs : List α} (h : x ∉ xs) : dNotIn (enc x) (.list (xs.map enc)) = some (.bool true) := by rw [dNotIn_enc hd, decide_eq_false h]; rfl
end
theorem fold_rng {β : Type} (f : β → D → R β) (S : Nat → β) (e : Nat → D) : ∀ (n : Nat), (∀ k, k < n → f (S k) (e k) = .ok (S (k + 1))) → R.fold some f ((List.range n).map e) (S 0) = .ok (S n) := by
  have app : ∀ (xs ys : List D) (s t : β), R.fold some f xs s = .ok t → R.fold some f (xs ++ ys) s = R.fold some f ys t := by
    intro xs
    induction xs with
    | nil => intro ys s t h; cases h; rfl
    | cons x xs ih =>
      intro ys s t h
      rw [List.cons_append]
      simp only [R.fold, ofO_some, bind_ok] at h ⊢
      cases e : f s x with
      | ok u => rw [e] at h; exact ih ys u t h
      | err k => rw [e] at h; cases h
      | bad => rw [e] at h; cases h
  intro n
  induction n with
  | zero => intro _; rfl
  | succ n ih =>
    intro h
    rw [List.range_succ, List.map_append, app _ _ _ _ (ih fun k hk => h k (Nat.lt_succ_of_lt hk))]
    simp only [List.map_cons, List.map_nil, R.fold, ofO_some, bind_ok, h n (Nat.lt_succ_self n)]
/-- all groupings of n things -/
def longer (rows : List (List Nat)) : List (List Nat) := rows.flatMap fun row => (List.range (ng row + 1)).map fun g => row ++ [g]
def allG : Nat → List (List Nat)
  | 0 => [[]]
  | n + 1 => longer (allG n)
theorem mem_longer {rows : List (List Nat)} {r : List Nat} : r ∈ longer rows ↔ ∃ row g, row ∈ rows ∧ g ≤ ng row ∧ r = row ++ [g] := by
  unfold longer
  rw [List.mem_flatMap]
  constructor
  · rintro ⟨row, h, h2⟩
    obtain ⟨g, hg, rfl⟩ := List.mem_map.mp h2
    exact ⟨row, g, h, Nat.lt_succ_iff.mp (List.mem_range.mp hg), rfl⟩
  · rintro ⟨row, g, h, hg, rfl⟩
    exact ⟨row, h, List.mem_map.mpr ⟨g, List.mem_range.mpr (Nat.lt_succ_iff.mpr hg), rfl⟩⟩
theorem mem_allG : ∀ {n : Nat} {r : List Nat}, r ∈ allG n ↔ r.length = n ∧ chk 0 r = true
  | 0, r => by
    show r ∈ [[]] ↔ _
    rw [List.mem_singleton]
    constructor
    · rintro rfl; exact ⟨rfl, rfl⟩
    · intro h; exact List.eq_nil_of_length_eq_zero h.1
  | n + 1, r => by
    show r ∈ longer (allG n) ↔ _
    rw [mem_longer]
    constructor
    · rintro ⟨row, g, h, hg, rfl⟩
      obtain ⟨h1, h2⟩ := mem_allG.mp h
      refine ⟨by simp [h1], ?_⟩
      rw [chk_append, h2]
      show (chk (ng row) [g]) = true
      simp [chk, hg]
    · rintro ⟨h1, h2⟩
      have hne : r ≠ [] := fun z => by rw [z] at h1; simp at h1
      have e := List.dropLast_concat_getLast hne
      refine ⟨r.dropLast, r.getLast hne, ?_, ?_, e.symm⟩
      · rw [← e, chk_append] at h2
        exact mem_allG.mpr ⟨by rw [List.length_dropLast, h1]; rfl, (Bool.and_eq_true_iff.mp h2).1⟩
      · rw [← e, chk_append] at h2
        have := (Bool.and_eq_true_iff.mp h2).2
        simpa [chk, ng] using this
theorem allG_grp {n : Nat} (h1 : 1 ≤ n) (h2 : n ≤ 7) {r : List Nat} : r ∈ allG n ↔ Grp r ∧ r.length = n := by
  rw [mem_allG]
  exact ⟨fun h => ⟨⟨by omega, by omega, h.2⟩, h.1⟩, fun h => ⟨h.2, h.1.2.2⟩⟩
theorem allG_nodup : ∀ n : Nat, (allG n).Nodup
  | 0 => by simp [allG]
  | n + 1 => by
    show (longer (allG n)).Nodup
    unfold longer
    show List.Pairwise _ _
    rw [List.pairwise_flatMap]
    refine ⟨fun row _ => ?_, (allG_nodup n).imp fun {a b} hab x hx y hy e => ?_⟩
    · rw [List.pairwise_map]
      exact List.nodup_range.imp fun {a b} hab e => hab (by simpa using e)
    · obtain ⟨g, _, rfl⟩ := List.mem_map.mp hx
      obtain ⟨g', _, rfl⟩ := List.mem_map.mp hy
      exact hab (List.append_inj_left' e rfl)
theorem dRange2_one {n : Nat} (h : n ≤ 1000) : dRange2 [.int 1, nI n] = some ((List.range (n - 1)).map fun k => nI (k + 1)) := by
  have hh : (-10000000 ≤ (1 : Int) ∧ (1 : Int) ≤ 10000000) ∧ -10000000 ≤ (n : Int) ∧ (n : Int) ≤ 10000000 ∧ (n : Int) - 1 ≤ 10000000 := by omega
  simp only [dRange2]
  rw [if_pos hh]
  unfold dRng
  rw [show ((n : Int) - 1).toNat = n - 1 by omega]
  congr 1
  refine List.map_congr_left fun k _ => ?_
  show PyData.int (1 + (k : Int)) = PyData.int ((k + 1 : Nat) : Int)
  congr 1
  omega
theorem allG_len : ∀ n, n ≤ 7 → (allG n).length ≤ 877 := fun n h => by
  have : ∀ m, m < 8 → (allG m).length ≤ 877 := by decide +kernel
  exact this n (by omega)
theorem dAdd_row (row : List Nat) (g : Nat) (h : row.length + 1 ≤ LIM) : dAdd (nL row) (.list [nI g]) = some (nL (row ++ [g])) := by
  have e : dAdd (nL row) (.list [nI g]) = if (row.map nI).length + [nI g].length ≤ LIM then some (.list (row.map nI ++ [nI g])) else none := rfl
  rw [e, if_pos (by simpa using h)]
  simp
theorem longer_fold {β : Type} (f : β → D → R β) (S : List (List Nat) → β)
    (hf : ∀ acc row, row ≠ [] → ng row ≤ 1000 → row.length ≤ 1000 → acc.length + (ng row + 1) ≤ LIM → f (S acc) (nL row) = .ok (S (acc ++ (List.range (ng row + 1)).map fun g => row ++ [g]))) :
    ∀ (rows acc : List (List Nat)), (∀ row, row ∈ rows → row ≠ [] ∧ ng row ≤ 1000 ∧ row.length ≤ 1000) → acc.length + (longer rows).length ≤ LIM → R.fold some f (rows.map nL) (S acc) = .ok (S (acc ++ longer rows))
  | [], acc, _, _ => by simp [R.fold, longer]
  | row :: rows, acc, h, hl => by
    obtain ⟨h1, h2, h3⟩ := h row List.mem_cons_self
    have e : longer (row :: rows) = ((List.range (ng row + 1)).map fun g => row ++ [g]) ++ longer rows := by simp [longer]
    rw [e, List.length_append, List.length_map, List.length_range] at hl
    simp only [List.map_cons, R.fold, ofO_some, bind_ok, hf acc row h1 h2 h3 (by omega)]
    rw [longer_fold f S hf rows _ (fun r hr => h r (List.mem_cons_of_mem _ hr)) (by simp only [List.length_append, List.length_map, List.length_range]; omega), e, List.append_assoc]
theorem allG_rows {n : Nat} (h1 : 1 ≤ n) (h2 : n ≤ 7) : ∀ row, row ∈ allG n → row ≠ [] ∧ ng row ≤ 1000 ∧ row.length ≤ 1000 := fun row h => by
  obtain ⟨hg, hl⟩ := (allG_grp h1 h2).mp h
  have := hg.ng_le
  have := hg.2.1
  exact ⟨hg.ne, by omega, by omega⟩

theorem dNe_bool (a b : Bool) : dNe (.bool a) (.bool b) = some (.bool (!decide (a = b))) := dNe_enc (α := Bool) (by decide) a b
theorem fold_pre {α β σ : Type} (e : α → D) (dec : D → Option β) (k : α → β) (f : σ → β → R σ) (S : List α → σ) (N : Nat) : ∀ (xs pre : List α), pre.length + xs.length ≤ N → (∀ x, x ∈ xs → dec (e x) = some (k x)) → (∀ pre x, pre.length < N → x ∈ xs → f (S pre) (k x) = .ok (S (pre ++ [x]))) → R.fold dec f (xs.map e) (S pre) = .ok (S (pre ++ xs))
  | [], pre, _, _, _ => by simp [R.fold]
  | x :: xs, pre, hl, hd, hf => by
    rw [List.length_cons] at hl
    simp only [List.map_cons, R.fold, hd x List.mem_cons_self, ofO_some, bind_ok, hf pre x (by omega) List.mem_cons_self]
    rw [fold_pre e dec k f S N xs _ (by rw [List.length_append, List.length_singleton]; omega) (fun y hy => hd y (List.mem_cons_of_mem _ hy)) (fun pre y hp hy => hf pre y hp (List.mem_cons_of_mem _ hy)), List.append_assoc]
    rfl
theorem foldS_all {α β : Type} (e : α → D) (dec : D → Option β) (k : α → β) (f : Unit → β → R (Stp Unit)) (bad : α → Bool) : ∀ (xs : List α), (∀ x, x ∈ xs → dec (e x) = some (k x)) → (∀ x, x ∈ xs → f () (k x) = if bad x = true then .ok (.rt (.bool false)) else .ok (.nx ())) → R.seqE (R.foldS dec f (xs.map e) ()) (fun _ => R.ok (.bool true)) = .ok (.bool (xs.all fun x => !bad x))
  | [], _, _ => rfl
  | x :: xs, hd, hf => by
    simp only [List.map_cons, R.foldS, hd x List.mem_cons_self, ofO_some, bind_ok, hf x List.mem_cons_self]
    cases hb : bad x with
    | true => rw [if_pos rfl, seq_rt, seqE_rt]; simp [hb]
    | false =>
      rw [if_neg (by decide), seq_nx, foldS_all e dec k f bad xs (fun y hy => hd y (List.mem_cons_of_mem _ hy)) (fun y hy => hf y (List.mem_cons_of_mem _ hy))]
      simp [hb]
theorem dRange2_nat {a b : Nat} (ha : a ≤ 1000) (hb : b ≤ 1000) : dRange2 [nI a, nI b] = some ((List.range (b - a)).map fun i => nI (a + i)) := by
  have hh : (-10000000 ≤ (a : Int) ∧ (a : Int) ≤ 10000000) ∧ -10000000 ≤ (b : Int) ∧ (b : Int) ≤ 10000000 ∧ (b : Int) - (a : Int) ≤ 10000000 := by omega
  simp only [dRange2]
  rw [if_pos hh]
  unfold dRng
  rw [show ((b : Int) - (a : Int)).toNat = b - a by omega]
  congr 1
/-- the pairs of things -/
def prow (n k : Nat) : List (Nat × Nat) := (List.range (n - (k + 1))).map fun i => (k, k + 1 + i)
def prsK (n k : Nat) : List (Nat × Nat) := (List.range k).flatMap (prow n)
def prs (n : Nat) : List (Nat × Nat) := prsK n n
abbrev pD (p : Nat × Nat) : D := .tuple [nI p.1, nI p.2]
theorem prsK_succ (n k : Nat) : prsK n (k + 1) = prsK n k ++ prow n k := by
  unfold prsK
  rw [List.range_succ, List.flatMap_append]
  simp
theorem prow_len (n k : Nat) : (prow n k).length ≤ n := by unfold prow; rw [List.length_map, List.length_range]; omega
theorem prsK_len (n : Nat) : ∀ k, (prsK n k).length ≤ k * n
  | 0 => by simp [prsK]
  | k + 1 => by
    rw [prsK_succ, List.length_append, Nat.succ_mul]
    have := prsK_len n k
    have := prow_len n k
    omega
theorem mem_prs {n k j : Nat} : (k, j) ∈ prs n ↔ k < j ∧ j < n := by
  unfold prs prsK prow
  rw [List.mem_flatMap]
  constructor
  · rintro ⟨a, ha, h⟩
    obtain ⟨i, hi, e⟩ := List.mem_map.mp h
    have := List.mem_range.mp hi
    cases e
    omega
  · rintro ⟨h1, h2⟩
    exact ⟨k, List.mem_range.mpr (by omega), List.mem_map.mpr ⟨j - (k + 1), List.mem_range.mpr (by omega), by congr 1; omega⟩⟩
theorem prs_lt {n : Nat} {p : Nat × Nat} (h : p ∈ prs n) : p.1 < p.2 ∧ p.2 < n := mem_prs.mp h
def same (row : List Nat) (p : Nat × Nat) : Bool := decide (row.getD p.1 0 = row.getD p.2 0)
/-- the pairs on which two groupings are unlike -/
def apart (one other : List Nat) : List (Nat × Nat) := (prs one.length).filter fun p => same one p != same other p
def dst (one other : List Nat) : Nat := (apart one other).length
theorem same_D {row : List Nat} {p : Nat × Nat} (h1 : p.1 < row.length) (h2 : p.2 < row.length) : ((R.ofO (dAt (nL row) (nI p.1))).bind fun x23 => (R.ofO (dAt (nL row) (nI p.2))).bind fun x24 => R.ofO (dEq x23 x24)) = .ok (.bool (same row p)) := by
  rw [dAt_nL h1, dAt_nL h2]
  simp only [ofO_some, bind_ok, dEq_int, same]
  congr 2
  exact decide_eq_decide.mpr (by omega)
theorem dPair_pD (p : Nat × Nat) : dPair (pD p) = some (nI p.1, nI p.2) := rfl
theorem dPair_two (a b : D) : dPair (.tuple [a, b]) = some (a, b) := rfl
theorem pr_q1 {n k : Nat} (hn : n ≤ 100) (hk : k < n) : dRange2 [PyData.int ((k : Int) + 1), nI n] = some ((List.range (n - (k + 1))).map fun i => nI (k + 1 + i)) := by
  rw [show ((k : Int) + 1) = ((k + 1 : Nat) : Int) by omega]
  exact dRange2_nat (a := k + 1) (b := n) (by omega) (by omega)
theorem pr_q2 {n k : Nat} : R.comp some (fun _ => R.ok true) (fun a14 => R.ok (.tuple (nI k :: (a14 :: [])))) ((List.range (n - (k + 1))).map fun i => nI (k + 1 + i)) = .ok ((List.range (n - (k + 1))).map fun i => pD (k, k + 1 + i)) :=
  comp_map (List.range (n - (k + 1))) (fun i => nI (k + 1 + i)) some (fun i => nI (k + 1 + i)) _ (fun i => pD (k, k + 1 + i)) (fun _ _ => rfl) fun g hg => rfl
theorem pr_q3 {n k : Nat} (hn : n ≤ 100) (hk : k < n) : ((prsK n k).map pD).length + ((List.range (n - (k + 1))).map fun i => pD (k, k + 1 + i)).length ≤ LIM := by
  have h1 := prsK_len n k
  have h2 : k * n ≤ 100 * 100 := Nat.mul_le_mul (by omega) hn
  rw [List.length_map, List.length_map, List.length_range]
  unfold LIM
  omega
theorem pr_q4 {n k : Nat} : (prsK n k).map pD ++ ((List.range (n - (k + 1))).map fun i => pD (k, k + 1 + i)) = (prsK n (k + 1)).map pD := by
  rw [prsK_succ, List.map_append, prow, List.map_map]
  rfl
theorem pr_q5 {n k : Nat} (hn : n ≤ 100) (hk : k < n) : dExt ((prsK n k).map pD) (.list ((List.range (n - (k + 1))).map fun i => pD (k, k + 1 + i))) = some ((prsK n (k + 1)).map pD) := by
  simp only [dExt]
  rw [if_pos (pr_q3 hn hk), pr_q4]
theorem pr_q6 {n k : Nat} (hn : n ≤ 100) (hk : k < n) : dAdd (.list ((prsK n k).map pD)) (.list ((List.range (n - (k + 1))).map fun i => pD (k, k + 1 + i))) = some (.list ((prsK n (k + 1)).map pD)) := by
  refine (if_pos (pr_q3 hn hk)).trans ?_
  rw [pr_q4]






theorem btw_iff (one m other : List Nat) (h2 : other.length = one.length) (h3 : m.length = one.length) : (∀ p, p ∈ prs one.length → same one p = same other p → same m p = same one p) ↔ dst one m + dst m other = dst one other := by
  unfold dst apart
  rw [h3]
  have key : ∀ ps : List (Nat × Nat), (ps.filter fun p => same one p != same other p).length ≤ (ps.filter fun p => same one p != same m p).length + (ps.filter fun p => same m p != same other p).length ∧ ((∀ p, p ∈ ps → same one p = same other p → same m p = same one p) ↔ (ps.filter fun p => same one p != same m p).length + (ps.filter fun p => same m p != same other p).length = (ps.filter fun p => same one p != same other p).length) := by
    intro ps
    induction ps with
    | nil => exact ⟨Nat.le_refl _, by simp⟩
    | cons p ps ih =>
      obtain ⟨ih1, ih2⟩ := ih
      rw [List.forall_mem_cons]
      simp only [List.filter_cons]
      rw [ih2]
      cases same one p <;> cases same other p <;> cases same m p <;> simp [-Bool.not_eq_true] <;> omega
  exact (key _).2
theorem dst_tri (one m other : List Nat) (h2 : other.length = one.length) (h3 : m.length = one.length) : dst one other ≤ dst one m + dst m other := by
  unfold dst apart
  rw [h3]
  have key : ∀ ps : List (Nat × Nat), (ps.filter fun p => same one p != same other p).length ≤ (ps.filter fun p => same one p != same m p).length + (ps.filter fun p => same m p != same other p).length := by
    intro ps
    induction ps with
    | nil => exact Nat.le_refl _
    | cons p ps ih =>
      simp only [List.filter_cons]
      cases same one p <;> cases same other p <;> cases same m p <;> simp [-Bool.not_eq_true] <;> omega
  exact key _
theorem dst_comm (one other : List Nat) (h : other.length = one.length) : dst one other = dst other one := by
  unfold dst apart
  rw [h]
  congr 2
  funext p
  cases same one p <;> cases same other p <;> rfl
theorem dst_self (one : List Nat) : dst one one = 0 := by
  unfold dst apart
  rw [List.length_eq_zero_iff, List.filter_eq_nil_iff]
  intro p _
  simp
theorem dLe_nat (a b : Nat) : dLe (nI a) (nI b) = some (.bool (decide (a ≤ b))) := by
  rw [dLe_int]; congr 2; exact decide_eq_decide.mpr (by omega)
theorem dEq_nat (a b : Nat) : dEq (nI a) (nI b) = some (.bool (decide (a = b))) := by
  rw [dEq_int]; congr 2; exact decide_eq_decide.mpr (by omega)
theorem dNe_nat (a b : Nat) : dNe (nI a) (nI b) = some (.bool (!decide (a = b))) := by
  rw [dNe_int]; congr 3; exact decide_eq_decide.mpr (by omega)
theorem dAdd_nat (a b : Nat) : dAdd (nI a) (nI b) = some (nI (a + b)) := by
  rw [dAdd_int]; congr 2
theorem dLen_nL (xs : List Nat) : dLen (nL xs :: []) = some (nI xs.length) := by
  rw [dLen_list, List.length_map]
theorem dLen_map {α : Type} (xs : List α) (e : α → D) : dLen (.list (xs.map e) :: []) = some (nI xs.length) := by
  rw [dLen_list, List.length_map]
theorem dMaxP_nL {row : List Nat} (h : row ≠ []) : ((R.ofO (dMax (nL row :: []))).bind fun x => R.ofO (dAdd x (.int 1))) = .ok (nI (ng row)) := by
  rw [dMax_nL row h, ofO_some, bind_ok, dAdd_int, ofO_some]
  congr 2
  omega
/-- the least of some numbers -/
def mnL : List Nat → Nat
  | [] => 0
  | x :: xs => xs.foldl (fun a b => if b < a then b else a) x
theorem mnL_spec {xs : List Nat} (h : xs ≠ []) : mnL xs ∈ xs ∧ ∀ y, y ∈ xs → mnL xs ≤ y := by
  have key : ∀ (xs : List Nat) (x : Nat), (xs.foldl (fun a b => if b < a then b else a) x = x ∨ xs.foldl (fun a b => if b < a then b else a) x ∈ xs) ∧ xs.foldl (fun a b => if b < a then b else a) x ≤ x ∧ ∀ y, y ∈ xs → xs.foldl (fun a b => if b < a then b else a) x ≤ y := by
    intro xs
    induction xs with
    | nil => intro x; exact ⟨.inl rfl, Nat.le_refl _, fun _ h => nomatch h⟩
    | cons z zs ih =>
      intro x
      obtain ⟨h1, h2, h3⟩ := ih (if z < x then z else x)
      rw [List.foldl_cons]
      refine ⟨?_, ?_, ?_⟩
      · rcases h1 with h1 | h1
        · rw [h1]
          split
          · exact .inr List.mem_cons_self
          · exact .inl rfl
        · exact .inr (List.mem_cons_of_mem _ h1)
      · refine Nat.le_trans h2 ?_
        split <;> omega
      · intro y hy
        rcases List.mem_cons.mp hy with rfl | hy
        · refine Nat.le_trans h2 ?_
          split <;> omega
        · exact h3 y hy
  cases xs with
  | nil => exact absurd rfl h
  | cons x xs =>
    obtain ⟨h1, h2, h3⟩ := key xs x
    refine ⟨?_, fun y hy => ?_⟩
    · rcases h1 with h1 | h1
      · show xs.foldl _ x ∈ _
        rw [h1]; exact List.mem_cons_self
      · exact List.mem_cons_of_mem _ h1
    · rcases List.mem_cons.mp hy with rfl | hy
      · exact h2
      · exact h3 y hy
theorem mnL_eq {xs : List Nat} {m : Nat} (h : m ∈ xs) (hm : ∀ y, y ∈ xs → m ≤ y) : mnL xs = m := by
  have hne : xs ≠ [] := fun z => by rw [z] at h; cases h
  obtain ⟨h1, h2⟩ := mnL_spec hne
  exact Nat.le_antisymm (h2 m h) (hm _ h1)
theorem foldl_min_nat : ∀ (xs : List Nat) (m : Nat), (xs.map fun (n : Nat) => (n : Int)).foldl (fun a b => if b < a then b else a) (m : Int) = ((xs.foldl (fun a b => if b < a then b else a) m : Nat) : Int)
  | [], m => rfl
  | x :: xs, m => by
    simp only [List.map_cons, List.foldl_cons]
    rw [← foldl_min_nat xs (if x < m then x else m)]
    congr 1
    split <;> split <;> omega
theorem dMin_nL {xs : List Nat} (h : xs ≠ []) : dMin (nL xs :: []) = some (nI (mnL xs)) := by
  cases xs with
  | nil => exact absurd rfl h
  | cons x xs =>
    show (dInts ((x :: xs).map nI)).bind _ = _
    rw [dInts_nat]
    show some (PyData.int ((xs.map fun (n : Nat) => (n : Int)).foldl (fun a b => if b < a then b else a) (x : Int))) = _
    rw [foldl_min_nat]
    rfl
theorem dMin_map {α : Type} {xs : List α} (h : xs ≠ []) (f : α → Nat) : dMin (.list (xs.map fun x => nI (f x)) :: []) = some (nI (mnL (xs.map f))) := by
  have := dMin_nL (xs := xs.map f) (by simpa using h)
  rw [← this, nL, List.map_map]
  rfl
theorem sum_int' (xs : List Nat) : (xs.map fun (n : Nat) => (n : Int)).sum = (xs.sum : Int) := by
  induction xs with
  | nil => rfl
  | cons x xs ih => simp only [List.map_cons, List.sum_cons, ih]; omega
theorem dSum_map {α : Type} (xs : List α) (f : α → Nat) : dSumA (.list (xs.map fun x => nI (f x)) :: []) = some (nI (xs.map f).sum) := by
  have e : (xs.map fun x => nI (f x)) = (xs.map f).map nI := by rw [List.map_map]; rfl
  rw [e]
  simp only [dSumA, dInts_nat, Option.map_some, sum_int']
theorem dAdd_list {xs ys : List D} (h : xs.length + ys.length ≤ LIM) : dAdd (.list xs) (.list ys) = some (.list (xs ++ ys)) := by
  show (if xs.length + ys.length ≤ LIM then some (PyData.list (xs ++ ys)) else none) = _
  rw [if_pos h]
theorem snoc_get {xs : List Nat} {x : Nat} : (xs ++ [x]).getD xs.length 0 = x := by
  rw [List.getD_eq_getElem?_getD, List.getElem?_append_right (Nat.le_refl _)]
  simp
theorem snoc_get2 {xs : List Nat} {x k : Nat} (h : k < xs.length) : (xs ++ [x]).getD k 0 = xs.getD k 0 := by
  rw [List.getD_eq_getElem?_getD, List.getD_eq_getElem?_getD, List.getElem?_append_left h]
/-- a grouping is known by its pairs -/
theorem chk_ext : ∀ (xs ys : List Nat), ys.length = xs.length → chk 0 xs = true → chk 0 ys = true → (∀ p, p ∈ prs xs.length → same xs p = same ys p) → xs = ys := by
  refine snoc_ind (fun ys h _ _ _ => (List.eq_nil_of_length_eq_zero (by simpa using h)).symm) fun xs x ih ys hl hx hy hs => ?_
  have hne : ys ≠ [] := fun z => by rw [z] at hl; simp at hl
  obtain ⟨zs, y, rfl⟩ : ∃ zs y, ys = zs ++ [y] := ⟨_, _, (List.dropLast_concat_getLast hne).symm⟩
  have hl' : zs.length = xs.length := by simpa using hl
  rw [chk_append] at hx hy
  obtain ⟨hx1, hx2⟩ := Bool.and_eq_true_iff.mp hx
  obtain ⟨hy1, hy2⟩ := Bool.and_eq_true_iff.mp hy
  have hx2 : x ≤ ng xs := by simpa [chk, ng] using hx2
  have hy2 : y ≤ ng zs := by simpa [chk, ng] using hy2
  have e : xs = zs := ih zs hl' hx1 hy1 fun p hp => by
    have hp' := prs_lt hp
    have h2 := hs p (by rw [List.length_append, List.length_singleton]; exact mem_prs.mpr ⟨hp'.1, by omega⟩)
    unfold same at h2 ⊢
    rw [snoc_get2 (by omega), snoc_get2 (by omega), snoc_get2 (by omega), snoc_get2 (by omega)] at h2
    exact h2
  subst e
  have hk : ∀ k, k < xs.length → (xs.getD k 0 = x ↔ xs.getD k 0 = y) := fun k hk => by
    have h2 := hs (k, xs.length) (by rw [List.length_append, List.length_singleton]; exact mem_prs.mpr ⟨hk, by omega⟩)
    unfold same at h2
    simp only [] at h2
    rw [snoc_get2 hk, snoc_get2 hk, snoc_get, snoc_get] at h2
    exact decide_eq_decide.mp h2
  have mem : ∀ z, z ∈ xs → ∃ k, k < xs.length ∧ xs.getD k 0 = z := fun z hz => by
    obtain ⟨k, hk, e⟩ := List.getElem_of_mem hz
    exact ⟨k, hk, by rw [List.getD_eq_getElem?_getD, List.getElem?_eq_getElem hk, ← e]; rfl⟩
  have exy : x = y := by
    by_cases h : x < ng xs
    · obtain ⟨k, h1, h2⟩ := mem x (chk_onto hx1 h)
      have := (hk k h1).mp h2
      omega
    · by_cases h' : y < ng xs
      · obtain ⟨k, h1, h2⟩ := mem y (chk_onto hx1 h')
        have := (hk k h1).mpr h2
        omega
      · omega
  rw [exy]
theorem dst_zero {xs ys : List Nat} (hl : ys.length = xs.length) (hx : chk 0 xs = true) (hy : chk 0 ys = true) : dst xs ys = 0 ↔ xs = ys := by
  constructor
  · intro h
    refine chk_ext xs ys hl hx hy fun p hp => ?_
    have := List.filter_eq_nil_iff.mp (List.eq_nil_of_length_eq_zero h) p hp
    simpa using this
  · rintro rfl; exact dst_self xs
theorem filter_uniq {α : Type} [DecidableEq α] {xs : List α} {a : α} (hn : xs.Nodup) (ha : a ∈ xs) (p : α → Bool) (hp : ∀ x, x ∈ xs → (p x = true ↔ x = a)) : xs.filter p = [a] := by
  have e : xs.filter p = xs.filter fun x => decide (x = a) := List.filter_congr fun x hx => by
    rw [Bool.eq_iff_iff, hp x hx, decide_eq_true_eq]
  rw [e]
  clear e hp
  induction xs with
  | nil => cases ha
  | cons x xs ih =>
    have hn' := List.nodup_cons.mp hn
    by_cases h : x = a
    · subst h
      have : xs.filter (fun y => decide (y = x)) = [] := List.filter_eq_nil_iff.mpr fun y hy z => hn'.1 (of_decide_eq_true z ▸ hy)
      rw [List.filter_cons, if_pos (by simp), this]
    · rw [List.filter_cons, if_neg (by simpa using h), ih hn'.2 ((List.mem_cons.mp ha).resolve_left fun z => h z.symm)]
theorem zip_map_self {α β γ : Type} (xs : List α) (f : α → β) (g : α → γ) : (xs.map f).zip (xs.map g) = xs.map fun x => (f x, g x) := by
  induction xs with
  | nil => rfl
  | cons x xs ih => simp only [List.map_cons, List.zip_cons_cons, ih]
theorem dZip_map {α : Type} (xs : List α) (f g : α → D) : dZip [.list (xs.map f), .list (xs.map g)] = some (xs.map fun x => .tuple [f x, g x]) := by
  simp only [dZip, zip_map_self, List.map_map]
  rfl





/-! numbering by equal labels -/
theorem same_numb {α : Type} [DecidableEq α] {xs : List α} {p : Nat × Nat} {x y : α} (h1 : xs[p.1]? = some x) (h2 : xs[p.2]? = some y) : same (numb xs) p = decide (x = y) := by
  unfold same
  refine decide_eq_decide.mpr ?_
  rw [← numb_ker h1 h2]
  have l1 : p.1 < (numb xs).length := by rw [numb_length]; exact (List.getElem?_eq_some_iff.mp h1).1
  have l2 : p.2 < (numb xs).length := by rw [numb_length]; exact (List.getElem?_eq_some_iff.mp h2).1
  rw [List.getD_eq_getElem?_getD, List.getD_eq_getElem?_getD, List.getElem?_eq_getElem l1, List.getElem?_eq_getElem l2]
  simp
theorem numb_congr {α β : Type} [DecidableEq α] [DecidableEq β] {xs : List α} {ys : List β} (hl : ys.length = xs.length) (h : ∀ (i j : Nat) (x x' : α) (y y' : β), xs[i]? = some x → xs[j]? = some x' → ys[i]? = some y → ys[j]? = some y' → (x = x' ↔ y = y')) : numb xs = numb ys := by
  refine chk_ext _ _ (by rw [numb_length, numb_length, hl]) (numb_chk xs).1 (numb_chk ys).1 fun p hp => ?_
  rw [numb_length] at hp
  have := prs_lt hp
  have a1 := List.getElem?_eq_getElem (l := xs) (i := p.1) (by omega)
  have a2 := List.getElem?_eq_getElem (l := xs) (i := p.2) (by omega)
  have b1 := List.getElem?_eq_getElem (l := ys) (i := p.1) (by omega)
  have b2 := List.getElem?_eq_getElem (l := ys) (i := p.2) (by omega)
  rw [same_numb a1 a2, same_numb b1 b2]
  exact decide_eq_decide.mpr (h _ _ _ _ _ _ a1 a2 b1 b2)
theorem getD_get {xs : List Nat} {k : Nat} (h : k < xs.length) : xs[k]? = some (xs.getD k 0) := by
  rw [List.getD_eq_getElem?_getD, List.getElem?_eq_getElem h]
  rfl
theorem numb_congrN {xs ys : List Nat} (hl : ys.length = xs.length) (h : ∀ i j, i < xs.length → j < xs.length → (xs.getD i 0 = xs.getD j 0 ↔ ys.getD i 0 = ys.getD j 0)) : numb xs = numb ys := by
  refine numb_congr hl fun i j x x' y y' a1 a2 b1 b2 => ?_
  have l1 := (List.getElem?_eq_some_iff.mp a1).1
  have l2 := (List.getElem?_eq_some_iff.mp a2).1
  rw [getD_get l1] at a1
  rw [getD_get l2] at a2
  rw [getD_get (by omega)] at b1
  rw [getD_get (by omega)] at b2
  cases a1; cases a2; cases b1; cases b2
  exact h i j l1 l2
/-- two things are together in a numbering exactly if they have one label -/
theorem numb_getD {xs : List Nat} {i j : Nat} (hi : i < xs.length) (hj : j < xs.length) : (numb xs).getD i 0 = (numb xs).getD j 0 ↔ xs.getD i 0 = xs.getD j 0 := by
  have := same_numb (p := (i, j)) (getD_get hi) (getD_get hj)
  unfold same at this
  exact decide_eq_decide.mp this
/-! chains of pairs -/
inductive Conn (es : List (Nat × Nat)) : Nat → Nat → Prop
  | refl (k : Nat) : Conn es k k
  | fwd {k a b : Nat} : Conn es k a → (a, b) ∈ es → Conn es k b
  | bwd {k a b : Nat} : Conn es k b → (a, b) ∈ es → Conn es k a
theorem Conn.trans {es : List (Nat × Nat)} {a b c : Nat} (h1 : Conn es a b) (h2 : Conn es b c) : Conn es a c := by
  induction h2 with
  | refl => exact h1
  | fwd _ h ih => exact .fwd ih h
  | bwd _ h ih => exact .bwd ih h
theorem Conn.edge {es : List (Nat × Nat)} {a b : Nat} (h : (a, b) ∈ es) : Conn es a b := .fwd (.refl a) h
theorem Conn.symm {es : List (Nat × Nat)} {a b : Nat} (h : Conn es a b) : Conn es b a := by
  induction h with
  | refl => exact .refl _
  | fwd _ h ih => exact (Conn.bwd (.refl _) h).trans ih
  | bwd _ h ih => exact (Conn.edge h).trans ih
theorem Conn.mono {es es' : List (Nat × Nat)} (hs : ∀ p, p ∈ es → p ∈ es') {a b : Nat} (h : Conn es a b) : Conn es' a b := by
  induction h with
  | refl => exact .refl _
  | fwd _ h ih => exact .fwd ih (hs _ h)
  | bwd _ h ih => exact .bwd ih (hs _ h)
/-- what is alike over each pair is alike over chains -/
theorem Conn.resp {α : Type} {es : List (Nat × Nat)} {g : Nat → α} (hg : ∀ a b, (a, b) ∈ es → g a = g b) {a b : Nat} (h : Conn es a b) : g a = g b := by
  induction h with
  | refl => rfl
  | fwd _ h ih => exact ih.trans (hg _ _ h)
  | bwd _ h ih => exact ih.trans (hg _ _ h).symm
theorem Conn.step_of {es es' : List (Nat × Nat)} (hs : ∀ a b, (a, b) ∈ es → Conn es' a b) {a b : Nat} (h : Conn es a b) : Conn es' a b := by
  induction h with
  | refl => exact .refl _
  | fwd _ h ih => exact ih.trans (hs _ _ h)
  | bwd _ h ih => exact ih.trans (hs _ _ h).symm
theorem Conn.lt {es : List (Nat × Nat)} {n : Nat} (he : ∀ p, p ∈ es → p.1 < n ∧ p.2 < n) {a b : Nat} (ha : a < n) (h : Conn es a b) : b < n := by
  induction h with
  | refl => exact ha
  | fwd _ h _ => exact (he _ h).2
  | bwd _ h _ => exact (he _ h).1
/-! the lower label for both, round after round -/
def relax (f : List Nat) (p : Nat × Nat) : List Nat := (f.set p.1 (min (f.getD p.1 0) (f.getD p.2 0))).set p.2 (min (f.getD p.1 0) (f.getD p.2 0))
theorem relax_len (f : List Nat) (p : Nat × Nat) : (relax f p).length = f.length := by simp [relax]
theorem relax_get {f : List Nat} {p : Nat × Nat} (h1 : p.1 < f.length) (h2 : p.2 < f.length) (x : Nat) : (relax f p).getD x 0 = if x = p.1 ∨ x = p.2 then min (f.getD p.1 0) (f.getD p.2 0) else f.getD x 0 := by
  unfold relax
  rw [List.getD_eq_getElem?_getD]
  by_cases e2 : x = p.2
  · subst e2
    rw [if_pos (.inr rfl), List.getElem?_set_self (by simpa using h2)]
    rfl
  · rw [List.getElem?_set_ne fun z => e2 z.symm]
    by_cases e1 : x = p.1
    · subst e1
      rw [if_pos (.inl rfl), List.getElem?_set_self h1]
      rfl
    · rw [if_neg fun z => z.elim e1 e2, List.getElem?_set_ne fun z => e1 z.symm, ← List.getD_eq_getElem?_getD]
def round (es : List (Nat × Nat)) (f : List Nat) : List Nat := es.foldl relax f
def rounds (es : List (Nat × Nat)) : Nat → List Nat → List Nat
  | 0, f => f
  | t + 1, f => round es (rounds es t f)
theorem round_len (es : List (Nat × Nat)) : ∀ f : List Nat, (round es f).length = f.length := by
  induction es with
  | nil => intro f; rfl
  | cons p es ih => intro f; show (round es (relax f p)).length = _; rw [ih, relax_len]
theorem rounds_len (es : List (Nat × Nat)) (f : List Nat) : ∀ t, (rounds es t f).length = f.length
  | 0 => rfl
  | t + 1 => by show (round es _).length = _; rw [round_len, rounds_len es f t]
section
variable {es : List (Nat × Nat)} {n : Nat}
/-- each label is a thing that a chain joins, and no later one -/
def LInv (es : List (Nat × Nat)) (n : Nat) (f : List Nat) : Prop := f.length = n ∧ ∀ x, x < n → Conn es x (f.getD x 0) ∧ f.getD x 0 ≤ x
def IsMin (es : List (Nat × Nat)) (x m : Nat) : Prop := Conn es x m ∧ ∀ y, Conn es x y → m ≤ y
theorem exists_min (es : List (Nat × Nat)) (x : Nat) : ∃ m, IsMin es x m := by
  have key : ∀ b y, y ≤ b → Conn es x y → ∃ m, IsMin es x m := by
    intro b
    induction b with
    | zero =>
      intro y hy hc
      have : y = 0 := by omega
      subst this
      exact ⟨0, hc, fun _ _ => Nat.zero_le _⟩
    | succ b ih =>
      intro y hy hc
      by_cases h : ∃ z, Conn es x z ∧ z < y
      · obtain ⟨z, hz, hlt⟩ := h
        exact ih z (by omega) hz
      · exact ⟨y, hc, fun z hz => Nat.le_of_not_lt fun q => h ⟨z, hz, q⟩⟩
  exact key x x (Nat.le_refl _) (.refl x)
theorem IsMin.of {x y m : Nat} (h : IsMin es x m) (c : Conn es x y) : IsMin es y m := ⟨c.symm.trans h.1, fun z hz => h.2 z (c.trans hz)⟩
/-- the label is the least already -/
def Good (es : List (Nat × Nat)) (f : List Nat) (x : Nat) : Prop := IsMin es x (f.getD x 0)
theorem LInv.low {f : List Nat} (h : LInv es n f) {x m : Nat} (hx : x < n) (hm : IsMin es x m) : m ≤ f.getD x 0 := hm.2 _ (h.2 x hx).1
theorem good_iff {f : List Nat} (h : LInv es n f) {x m : Nat} (hx : x < n) (hm : IsMin es x m) : Good es f x ↔ f.getD x 0 ≤ m := by
  have hl := h.low hx hm
  constructor
  · intro g; exact g.2 m hm.1
  · intro g
    have : f.getD x 0 = m := by omega
    unfold Good
    rw [this]; exact hm
theorem relax_inv {f : List Nat} {p : Nat × Nat} (h : LInv es n f) (hp : p ∈ es) (hb : p.1 < n ∧ p.2 < n) : LInv es n (relax f p) ∧ ∀ x, x < n → (relax f p).getD x 0 ≤ f.getD x 0 := by
  have c1 := h.2 p.1 hb.1
  have c2 := h.2 p.2 hb.2
  have ce : Conn es p.1 p.2 := .edge hp
  have g := relax_get (f := f) (p := p) (by rw [h.1]; exact hb.1) (by rw [h.1]; exact hb.2)
  have hm : Conn es p.1 (min (f.getD p.1 0) (f.getD p.2 0)) := by
    rcases Nat.le_total (f.getD p.1 0) (f.getD p.2 0) with q | q
    · rw [Nat.min_eq_left q]; exact c1.1
    · rw [Nat.min_eq_right q]; exact ce.trans c2.1
  refine ⟨⟨by rw [relax_len, h.1], fun x hx => ?_⟩, fun x hx => ?_⟩
  · rw [g]
    split
    · rename_i hx'
      rcases hx' with rfl | rfl
      · exact ⟨hm, by omega⟩
      · exact ⟨ce.symm.trans hm, by omega⟩
    · exact h.2 x hx
  · rw [g]
    split
    · rename_i hx'
      rcases hx' with rfl | rfl <;> omega
    · exact Nat.le_refl _
theorem round_inv (es' : List (Nat × Nat)) : ∀ {f : List Nat}, LInv es n f → (∀ p, p ∈ es' → p ∈ es ∧ p.1 < n ∧ p.2 < n) → LInv es n (round es' f) ∧ ∀ x, x < n → (round es' f).getD x 0 ≤ f.getD x 0 := by
  induction es' with
  | nil => intro f h _; exact ⟨h, fun _ _ => Nat.le_refl _⟩
  | cons p es' ih =>
    intro f h hp
    obtain ⟨h1, h2⟩ := relax_inv h (hp p List.mem_cons_self).1 (hp p List.mem_cons_self).2
    obtain ⟨h3, h4⟩ := ih h1 fun q hq => hp q (List.mem_cons_of_mem _ hq)
    exact ⟨h3, fun x hx => Nat.le_trans (h4 x hx) (h2 x hx)⟩
theorem Good.stay {f g : List Nat} (hf : LInv es n f) (hg : LInv es n g) (hle : ∀ x, x < n → g.getD x 0 ≤ f.getD x 0) {x : Nat} (hx : x < n) (h : Good es f x) : Good es g x := by
  obtain ⟨m, hm⟩ := exists_min es x
  rw [good_iff hg hx hm]
  exact Nat.le_trans (hle x hx) ((good_iff hf hx hm).mp h)
/-- one round: a pair with one good end gets two -/
theorem round_good {f : List Nat} (h : LInv es n f) (he : ∀ p, p ∈ es → p.1 < n ∧ p.2 < n) {u v : Nat} (huv : (u, v) ∈ es) : (Good es f u → Good es (round es f) v) ∧ (Good es f v → Good es (round es f) u) := by
  obtain ⟨pre, post, e⟩ := List.append_of_mem huv
  have hb := he _ huv
  have e2 : round es f = round post (relax (round pre f) (u, v)) := by
    conv => lhs; rw [e]
    unfold round
    rw [List.foldl_append]
    rfl
  have m1 : ∀ p, p ∈ pre → p ∈ es ∧ p.1 < n ∧ p.2 < n := fun p hp => by
    have : p ∈ es := by rw [e]; exact List.mem_append_left _ hp
    exact ⟨this, he p this⟩
  have m2 : ∀ p, p ∈ post → p ∈ es ∧ p.1 < n ∧ p.2 < n := fun p hp => by
    have : p ∈ es := by rw [e]; exact List.mem_append_right _ (List.mem_cons_of_mem _ hp)
    exact ⟨this, he p this⟩
  obtain ⟨i1, l1⟩ := round_inv pre h m1
  obtain ⟨i2, l2⟩ := relax_inv i1 huv hb
  obtain ⟨i3, l3⟩ := round_inv post i2 m2
  have g := relax_get (f := round pre f) (p := (u, v)) (by rw [i1.1]; exact hb.1) (by rw [i1.1]; exact hb.2)
  have both : ∀ w, (w = u ∨ w = v) → (Good es f u ∨ Good es f v) → Good es (round es f) w := fun w hw hg => by
    have hwn : w < n := by
      rcases hw with rfl | rfl
      · exact hb.1
      · exact hb.2
    obtain ⟨m, hm⟩ := exists_min es u
    have hmv : IsMin es v m := hm.of (.edge huv)
    have hmw : IsMin es w m := by
      rcases hw with rfl | rfl
      · exact hm
      · exact hmv
    rw [e2]
    refine Good.stay i2 i3 l3 hwn ?_
    rw [good_iff i2 hwn hmw, g, if_pos hw]
    rcases hg with hg | hg
    · have := (good_iff i1 hb.1 hm).mp (hg.stay h i1 l1 hb.1)
      exact Nat.le_trans (Nat.min_le_left _ _) this
    · have := (good_iff i1 hb.2 hmv).mp (hg.stay h i1 l1 hb.2)
      exact Nat.le_trans (Nat.min_le_right _ _) this
  exact ⟨fun hg => both v (.inr rfl) (.inl hg), fun hg => both u (.inl rfl) (.inr hg)⟩
open Classical in
theorem count_lt {P Q : Nat → Prop} {n v : Nat} (hpq : ∀ x, x < n → P x → Q x) (hv : v < n) (h1 : ¬ P v) (h2 : Q v) : ((List.range n).countP fun x => decide (P x)) < (List.range n).countP fun x => decide (Q x) := by
  induction n with
  | zero => omega
  | succ n ih =>
    rw [List.range_succ, List.countP_append, List.countP_append]
    simp only [List.countP_cons, List.countP_nil, decide_eq_true_eq, Nat.zero_add]
    by_cases hn : v < n
    · have := ih (fun x hx => hpq x (Nat.lt_succ_of_lt hx)) hn
      by_cases hp : P n
      · have := hpq n (Nat.lt_succ_self n) hp
        simp [hp, this]; omega
      · by_cases hq : Q n
        · simp [hp, hq]; omega
        · simp [hp, hq]; omega
    · have : v = n := by omega
      subst this
      have hle : ∀ m, m ≤ v → ((List.range m).countP fun x => decide (P x)) ≤ (List.range m).countP fun x => decide (Q x) := fun m hm => by
        refine List.countP_mono_left fun x hx hp => ?_
        simp only [decide_eq_true_eq] at hp ⊢
        exact hpq x (by have := List.mem_range.mp hx; omega) hp
      have := hle v (Nat.le_refl _)
      simp [h1, h2]; omega
theorem range_inv (es : List (Nat × Nat)) (n : Nat) : LInv es n (List.range n) := ⟨List.length_range, fun x hx => by
  have e : (List.range n).getD x 0 = x := by rw [List.getD_eq_getElem?_getD, List.getElem?_range hx]; rfl
  rw [e]
  exact ⟨.refl x, Nat.le_refl _⟩⟩
theorem rounds_inv (he : ∀ p, p ∈ es → p.1 < n ∧ p.2 < n) : ∀ t, LInv es n (rounds es t (List.range n))
  | 0 => range_inv es n
  | t + 1 => (round_inv es (rounds_inv he t) fun p hp => ⟨hp, he p hp⟩).1
open Classical in
theorem rounds_count (he : ∀ p, p ∈ es → p.1 < n ∧ p.2 < n) (hn : 0 < n) : ∀ t, (∀ x, x < n → Good es (rounds es t (List.range n)) x) ∨ t + 1 ≤ (List.range n).countP fun x => decide (Good es (rounds es t (List.range n)) x)
  | 0 => .inr (by
    refine List.countP_pos_iff.mpr ⟨0, List.mem_range.mpr hn, ?_⟩
    have h := (rounds_inv he 0)
    obtain ⟨m, hm⟩ := exists_min es 0
    have h0 : (rounds es 0 (List.range n)).getD 0 0 = 0 := by have := (h.2 0 hn).2; omega
    rw [decide_eq_true_eq, good_iff h hn hm, h0]
    exact Nat.zero_le _)
  | t + 1 => by
    have i0 := rounds_inv he t
    obtain ⟨i1, l1⟩ := round_inv es i0 fun p hp => ⟨hp, he p hp⟩
    have keep : ∀ x, x < n → Good es (rounds es t (List.range n)) x → Good es (rounds es (t + 1) (List.range n)) x := fun x hx g => g.stay i0 i1 l1 hx
    rcases rounds_count he hn t with ih | ih
    · exact .inl fun x hx => keep x hx (ih x hx)
    · by_cases hall : ∀ x, x < n → Good es (rounds es t (List.range n)) x
      · exact .inl fun x hx => keep x hx (hall x hx)
      · have hex : ∃ x, x < n ∧ ¬ Good es (rounds es t (List.range n)) x := Classical.byContradiction fun z => hall fun x hx => Classical.byContradiction fun q => z ⟨x, hx, q⟩
        obtain ⟨x, hx, hbad⟩ := hex
        obtain ⟨m, hm⟩ := exists_min es x
        have hmn : m < n := hm.1.lt he hx
        have hmm : IsMin es m m := hm.of hm.1
        have gm : Good es (rounds es t (List.range n)) m := (good_iff i0 hmn hmm).mpr (i0.2 m hmn).2
        -- a pair with one good end
        have cross : ∀ y, Conn es m y → ¬ Good es (rounds es t (List.range n)) y → ∃ v, v < n ∧ ¬ Good es (rounds es t (List.range n)) v ∧ Good es (rounds es (t + 1) (List.range n)) v := by
          intro y hc
          induction hc with
          | refl => intro hb; exact absurd gm hb
          | fwd hc' he' ih =>
            rename_i a b
            intro hb
            by_cases ga : Good es (rounds es t (List.range n)) a
            · exact ⟨b, (he _ he').2, hb, (round_good i0 he he').1 ga⟩
            · exact ih ga
          | bwd hc' he' ih =>
            rename_i a b
            intro hb
            by_cases gb : Good es (rounds es t (List.range n)) b
            · exact ⟨a, (he _ he').1, hb, (round_good i0 he he').2 gb⟩
            · exact ih gb
        obtain ⟨v, hv, h1, h2⟩ := cross x hm.1.symm hbad
        exact .inr (Nat.le_trans (Nat.succ_le_succ ih) (count_lt keep hv h1 h2))
/-- THE ROUNDS: after n of them two things have one label exactly if a chain joins them -/
theorem rounds_spec (he : ∀ p, p ∈ es → p.1 < n ∧ p.2 < n) {x y : Nat} (hx : x < n) (hy : y < n) : (rounds es n (List.range n)).getD x 0 = (rounds es n (List.range n)).getD y 0 ↔ Conn es x y := by
  have i := rounds_inv he n
  have all : ∀ x, x < n → Good es (rounds es n (List.range n)) x := by
    rcases rounds_count he (by omega) n with h | h
    · exact h
    · exfalso
      have := List.countP_le_length (l := List.range n) (p := fun x => @decide (Good es (rounds es n (List.range n)) x) (Classical.propDecidable _))
      rw [List.length_range] at this
      omega
  constructor
  · intro h
    exact (i.2 x hx).1.trans (h ▸ (i.2 y hy).1.symm)
  · intro h
    have g1 := all x hx
    have g2 := all y hy
    have g3 := IsMin.of g1 h
    exact Nat.le_antisymm (g1.2 _ (h.trans g2.1)) (g2.2 _ (h.symm.trans g1.1))
end
/-! one label for another, pair after pair -/
def mrg (L : List Nat) (p : Nat × Nat) : List Nat := L.map fun l => if l = L.getD p.2 0 then L.getD p.1 0 else l
theorem mrg_len (L : List Nat) (p : Nat × Nat) : (mrg L p).length = L.length := by simp [mrg]
theorem mrgs_len : ∀ (es : List (Nat × Nat)) (L : List Nat), (es.foldl mrg L).length = L.length
  | [], L => rfl
  | p :: es, L => by show ((es.foldl mrg (mrg L p))).length = _; rw [mrgs_len es, mrg_len]
theorem mrg_get {L : List Nat} {p : Nat × Nat} {x : Nat} (hx : x < L.length) : (mrg L p).getD x 0 = if L.getD x 0 = L.getD p.2 0 then L.getD p.1 0 else L.getD x 0 := by
  unfold mrg
  rw [List.getD_eq_getElem?_getD, List.getElem?_map, getD_get hx]
  rfl
theorem mrgs_spec {n : Nat} : ∀ (es : List (Nat × Nat)), (∀ p, p ∈ es → p.1 < n ∧ p.2 < n) → ∀ x y, x < n → y < n → ((es.foldl mrg (List.range n)).getD x 0 = (es.foldl mrg (List.range n)).getD y 0 ↔ Conn es x y) := by
  refine snoc_ind ?_ fun es p ih => ?_
  · intro _ x y hx hy
    have e : ∀ z, z < n → (List.range n).getD z 0 = z := fun z hz => by rw [List.getD_eq_getElem?_getD, List.getElem?_range hz]; rfl
    show (List.range n).getD x 0 = (List.range n).getD y 0 ↔ _
    rw [e x hx, e y hy]
    constructor
    · rintro rfl; exact .refl x
    · intro h; exact Conn.resp (g := id) (fun a b hab => by cases hab) h
  · intro he x y hx hy
    have ih := ih fun q hq => he q (List.mem_append_left _ hq)
    have hp := he p (List.mem_append_right _ (List.mem_singleton.mpr rfl))
    rw [List.foldl_append]
    show (mrg (es.foldl mrg (List.range n)) p).getD x 0 = (mrg (es.foldl mrg (List.range n)) p).getD y 0 ↔ _
    have hl : (es.foldl mrg (List.range n)).length = n := by rw [mrgs_len, List.length_range]
    generalize es.foldl mrg (List.range n) = L at ih hl
    have sub : ∀ {a b}, Conn es a b → Conn (es ++ [p]) a b := fun h => h.mono fun q hq => List.mem_append_left _ hq
    have ce : Conn (es ++ [p]) p.1 p.2 := .edge (List.mem_append_right _ (List.mem_singleton.mpr rfl))
    constructor
    · rw [mrg_get (by omega), mrg_get (by omega)]
      intro h
      by_cases h1 : L.getD x 0 = L.getD p.2 0
      · rw [if_pos h1] at h
        have c1 := sub ((ih x p.2 hx hp.2).mp h1)
        by_cases h2 : L.getD y 0 = L.getD p.2 0
        · exact c1.trans (sub ((ih y p.2 hy hp.2).mp h2)).symm
        · rw [if_neg h2] at h
          exact (c1.trans ce.symm).trans (sub ((ih p.1 y hp.1 hy).mp h))
      · rw [if_neg h1] at h
        by_cases h2 : L.getD y 0 = L.getD p.2 0
        · rw [if_pos h2] at h
          exact ((sub ((ih x p.1 hx hp.1).mp h)).trans ce).trans (sub ((ih y p.2 hy hp.2).mp h2)).symm
        · rw [if_neg h2] at h
          exact sub ((ih x y hx hy).mp h)
    · intro h
      refine Conn.resp (g := fun z => (mrg L p).getD z 0) (fun a b hab => ?_) h
      have hb := he _ hab
      show (mrg L p).getD a 0 = (mrg L p).getD b 0
      rw [mrg_get (by omega), mrg_get (by omega)]
      rcases List.mem_append.mp hab with q | q
      · rw [(ih a b hb.1 hb.2).mpr (.edge q)]
      · have e := List.mem_singleton.mp q
        have e1 : a = p.1 := by rw [← e]
        have e2 : b = p.2 := by rw [← e]
        rw [e1, e2, if_pos rfl]
        split <;> rfl
/-- both ways give one grouping -/
theorem rounds_mrgs {es es' : List (Nat × Nat)} {n : Nat} (he : ∀ p, p ∈ es → p.1 < n ∧ p.2 < n) (he' : ∀ p, p ∈ es' → p.1 < n ∧ p.2 < n) (h : ∀ x y, x < n → y < n → (Conn es x y ↔ Conn es' x y)) : numb (rounds es n (List.range n)) = numb (es'.foldl mrg (List.range n)) := by
  refine numb_congrN (by rw [mrgs_len, rounds_len]) fun i j hi hj => ?_
  rw [rounds_len, List.length_range] at hi hj
  rw [rounds_spec he hi hj, mrgs_spec es' he' i j hi hj, h i j hi hj]
theorem fold_inv {α β σ τ : Type} (e : α → D) (dec : D → Option β) (k : α → β) (g : τ → β → R τ) (S : σ → τ) (h : σ → α → σ) (P : σ → Prop) : ∀ (xs : List α) (s : σ), P s → (∀ x, x ∈ xs → dec (e x) = some (k x)) → (∀ s x, P s → x ∈ xs → g (S s) (k x) = .ok (S (h s x)) ∧ P (h s x)) → R.fold dec g (xs.map e) (S s) = .ok (S (xs.foldl h s)) ∧ P (xs.foldl h s)
  | [], s, hp, _, _ => ⟨rfl, hp⟩
  | x :: xs, s, hp, hd, hg => by
    obtain ⟨h1, h2⟩ := hg s x hp List.mem_cons_self
    simp only [List.map_cons, R.fold, hd x List.mem_cons_self, ofO_some, bind_ok, h1]
    exact fold_inv e dec k g S h P xs _ h2 (fun y hy => hd y (List.mem_cons_of_mem _ hy)) fun s y hs hy => hg s y hs (List.mem_cons_of_mem _ hy)
theorem dMin_two (a b : Nat) : dMin (nI a :: (nI b :: [])) = some (nI (min a b)) := by
  show some (PyData.int (if (b : Int) < (a : Int) then (b : Int) else (a : Int))) = _
  congr 2
  split <;> omega
theorem ixN_nat {n k : Nat} (h : k < n) : L2.ixN n (k : Int) = some k := by
  unfold L2.ixN
  rw [if_pos (by omega), if_pos (by omega)]
  simp
theorem dSet_nL {f : List Nat} {k m : Nat} (h : k < f.length) : dSet (f.map nI) (nI m) (nI k) = some ((f.set k m).map nI) := by
  show (L2.ixN (f.map nI).length (k : Int)).map (fun j => (f.map nI).set j (nI m)) = _
  rw [List.length_map, ixN_nat h, List.map_set]
  rfl
theorem dAt_own {f : List Nat} {k : Nat} (h : k < f.length) : dAt (.list (f.map nI)) (nI k) = some (nI (f.getD k 0)) := dAt_nL h
theorem relax_D {f : List Nat} {k j : Nat} (hk : k < f.length) (hj : j < f.length) : (((R.ofO (dAt (.list (f.map nI)) (nI k))).bind fun d54 => ((R.ofO (dAt (.list (f.map nI)) (nI j))).bind fun d52 => R.ok (d52 :: [])).bind fun ds55 => R.ok (d54 :: ds55)).bind fun ds56 => R.ofO (dMin ds56)) = .ok (nI (min (f.getD k 0) (f.getD j 0))) := by
  rw [dAt_own hk, dAt_own hj]
  simp only [ofO_some, bind_ok, dMin_two]
theorem relax_S {f : List Nat} {k j m : Nat} (hk : k < f.length) (hj : j < f.length) (hm : m = min (f.getD k 0) (f.getD j 0)) : ((R.ofO (dPair (.tuple (nI m :: (nI m :: []))))).bind fun p64 => (R.ofO (dSet (f.map nI) p64.1 (nI k))).bind fun ds66 => R.ofO (dSet ds66 p64.2 (nI j))) = .ok ((relax f (k, j)).map nI) := by
  rw [dPair_two]
  simp only [ofO_some, bind_ok]
  rw [dSet_nL hk]
  simp only [ofO_some, bind_ok]
  rw [dSet_nL (by simpa using hj)]
  subst hm
  rfl
/-- the pairs that are together in one of two groupings -/
def tog (a b : List Nat) (k j : Nat) : Bool := decide (a.getD k 0 = a.getD j 0) || decide (b.getD k 0 = b.getD j 0)
def jedges (a b : List Nat) : List (Nat × Nat) := (List.range a.length).flatMap fun k => ((List.range a.length).filter fun j => tog a b k j).map fun j => (k, j)
/-- the finest grouping that is coarser than both -/
def jn (a b : List Nat) : List Nat := numb (rounds (jedges a b) a.length (List.range a.length))
/-- the coarsest grouping that is finer than both -/
def mt (a b : List Nat) : List Nat := numb (a.zip b)
theorem mem_jedges {a b : List Nat} {k j : Nat} : (k, j) ∈ jedges a b ↔ (k < a.length ∧ j < a.length) ∧ (a.getD k 0 = a.getD j 0 ∨ b.getD k 0 = b.getD j 0) := by
  unfold jedges
  rw [List.mem_flatMap]
  constructor
  · rintro ⟨k', h1, h2⟩
    obtain ⟨j', h3, e⟩ := List.mem_map.mp h2
    cases e
    obtain ⟨h4, h5⟩ := List.mem_filter.mp h3
    refine ⟨⟨List.mem_range.mp h1, List.mem_range.mp h4⟩, ?_⟩
    unfold tog at h5
    simpa using h5
  · rintro ⟨⟨h1, h2⟩, h3⟩
    exact ⟨k, List.mem_range.mpr h1, List.mem_map.mpr ⟨j, List.mem_filter.mpr ⟨List.mem_range.mpr h2, by unfold tog; simpa using h3⟩, rfl⟩⟩
theorem jedges_lt {a b : List Nat} : ∀ p, p ∈ jedges a b → p.1 < a.length ∧ p.2 < a.length := fun p hp => (mem_jedges (k := p.1) (j := p.2).mp hp).1
theorem round_jedges (a b f : List Nat) : round (jedges a b) f = (List.range a.length).foldl (fun f k => (List.range a.length).foldl (fun f j => if tog a b k j = true then relax f (k, j) else f) f) f := by
  unfold round jedges
  rw [List.foldl_flatMap]
  congr 1
  funext f k
  rw [List.foldl_map, List.foldl_filter]
theorem jn_len (a b : List Nat) : (jn a b).length = a.length := by unfold jn; rw [numb_length, rounds_len, List.length_range]
theorem jn_grp {a b : List Nat} (h : Grp a) : Grp (jn a b) := numb_grp (by rw [rounds_len, List.length_range]; exact h.1) (by rw [rounds_len, List.length_range]; exact h.2.1)
theorem mt_len {a b : List Nat} (hl : b.length = a.length) : (mt a b).length = a.length := by unfold mt; rw [numb_length, List.length_zip]; omega
theorem mt_grp {a b : List Nat} (h : Grp a) (hl : b.length = a.length) : Grp (mt a b) := numb_grp (by rw [List.length_zip]; have := h.1; omega) (by rw [List.length_zip]; have := h.2.1; omega)
theorem same_mt {a b : List Nat} (hl : b.length = a.length) {p : Nat × Nat} (h1 : p.1 < a.length) (h2 : p.2 < a.length) : same (mt a b) p = (same a p && same b p) := by
  unfold mt
  have e1 : (a.zip b)[p.1]? = some (a.getD p.1 0, b.getD p.1 0) := List.getElem?_zip_eq_some.mpr ⟨getD_get h1, getD_get (by omega)⟩
  have e2 : (a.zip b)[p.2]? = some (a.getD p.2 0, b.getD p.2 0) := List.getElem?_zip_eq_some.mpr ⟨getD_get h2, getD_get (by omega)⟩
  rw [same_numb e1 e2]
  unfold same
  rw [Bool.eq_iff_iff, Bool.and_eq_true, decide_eq_true_eq, decide_eq_true_eq, decide_eq_true_eq, Prod.mk.injEq]
theorem jn_together {a b : List Nat} {i j : Nat} (hi : i < a.length) (hj : j < a.length) : (jn a b).getD i 0 = (jn a b).getD j 0 ↔ Conn (jedges a b) i j := by
  unfold jn
  rw [numb_getD (by rw [rounds_len, List.length_range]; exact hi) (by rw [rounds_len, List.length_range]; exact hj), rounds_spec jedges_lt hi hj]
theorem tog_D {a b : List Nat} {k j : Nat} (hk : k < a.length) (hj : j < a.length) (hl : b.length = a.length) : ((((R.ofO (dAt (nL a) (nI k))).bind fun x35 => (R.ofO (dAt (nL a) (nI j))).bind fun x36 => R.ofO (dEq x35 x36)).bind fun x30 => R.ofO (dBool x30)).bind fun b44 => if b44 = true then R.ok true else ((R.ofO (dAt (nL b) (nI k))).bind fun x42 => (R.ofO (dAt (nL b) (nI j))).bind fun x43 => R.ofO (dEq x42 x43)).bind fun x37 => R.ofO (dBool x37)) = .ok (tog a b k j) := by
  rw [dAt_nL hk, dAt_nL hj, dAt_nL (by omega), dAt_nL (by omega)]
  simp only [ofO_some, bind_ok, dEq_nat, dBool_bool]
  unfold tog
  by_cases h : a.getD k 0 = a.getD j 0
  · simp only [h, decide_true, if_true, Bool.true_or]
  · simp only [h, decide_false, Bool.false_eq_true, if_false, Bool.false_or]






section
variable {α : Type} [DecidableEq α] [Enc α]
theorem dIn_iff (hd : Enc.dp α < 64) {x : α} {xs : List α} {q : Bool} (h : x ∈ xs ↔ q = true) : dIn (enc x) (.list (xs.map enc)) = some (.bool q) := by
  rw [dIn_enc hd]
  congr 2
  rw [Bool.eq_iff_iff, decide_eq_true_eq, h]
theorem dNotIn_iff (hd : Enc.dp α < 64) {x : α} {xs : List α} {q : Bool} (h : x ∈ xs ↔ q = true) : dNotIn (enc x) (.list (xs.map enc)) = some (.bool !q) := by
  rw [dNotIn_enc hd]
  congr 3
  rw [Bool.eq_iff_iff, decide_eq_true_eq, h]
end
theorem dIn_rows {x : List Nat} {xs : List (List Nat)} {q : Bool} (h : x ∈ xs ↔ q = true) : dIn (nL x) (nLL xs) = some (.bool q) := dIn_iff (α := List Nat) (by decide) h
theorem dNotIn_rows {x : List Nat} {xs : List (List Nat)} {q : Bool} (h : x ∈ xs ↔ q = true) : dNotIn (nL x) (nLL xs) = some (.bool !q) := dNotIn_iff (α := List Nat) (by decide) h
theorem dIn_prs {x : Nat × Nat} {xs : List (Nat × Nat)} {q : Bool} (h : x ∈ xs ↔ q = true) : dIn (pD x) (.list (xs.map pD)) = some (.bool q) := dIn_iff (α := Nat × Nat) (by decide) h
theorem dNotIn_prs {x : Nat × Nat} {xs : List (Nat × Nat)} {q : Bool} (h : x ∈ xs ↔ q = true) : dNotIn (pD x) (.list (xs.map pD)) = some (.bool !q) := dNotIn_iff (α := Nat × Nat) (by decide) h
theorem dPush_map {α : Type} {e : α → D} {acc : List α} {x : α} (h : acc.length < LIM) : dPush (acc.map e) (e x) = some ((acc ++ [x]).map e) := by
  unfold dPush
  rw [if_pos (by rw [List.length_map]; exact h), List.map_append]
  rfl
theorem filtF {α : Type} (f : List D → D → R (List D)) (e : α → D) (p : α → Bool) : ∀ (xs acc : List α),
    (∀ acc x, x ∈ xs → acc.length < LIM → f (acc.map e) (e x) = .ok ((if p x = true then acc ++ [x] else acc).map e)) → acc.length + xs.length ≤ LIM → R.fold some f (xs.map e) (acc.map e) = .ok ((acc ++ xs.filter p).map e)
  | [], acc, _, _ => by simp [R.fold]
  | x :: xs, acc, hf, hl => by
    rw [List.length_cons] at hl
    simp only [List.map_cons, R.fold, ofO_some, bind_ok, hf acc x List.mem_cons_self (by omega)]
    cases hp : p x with
    | true =>
      rw [if_pos rfl, filtF f e p xs _ (fun acc y hy => hf acc y (List.mem_cons_of_mem _ hy)) (by rw [List.length_append, List.length_singleton]; omega), List.filter_cons, if_pos hp, List.append_assoc]
      rfl
    | false =>
      rw [if_neg (by decide), filtF f e p xs _ (fun acc y hy => hf acc y (List.mem_cons_of_mem _ hy)) (by omega), List.filter_cons, if_neg (by rw [hp]; decide)]





/-- each group of the one lies within a group of the other -/
def fnr (a b : List Nat) : Bool := (prs a.length).all fun p => !(same a p && !same b p)
theorem fnr_iff {a b : List Nat} : fnr a b = true ↔ ∀ i j, i < a.length → j < a.length → a.getD i 0 = a.getD j 0 → b.getD i 0 = b.getD j 0 := by
  unfold fnr
  rw [List.all_eq_true]
  constructor
  · intro h i j hi hj e
    rcases Nat.lt_trichotomy i j with q | q | q
    · have := h (i, j) (mem_prs.mpr ⟨q, hj⟩)
      unfold same at this
      simp only [e, decide_true, Bool.true_and, Bool.not_not, decide_eq_true_eq] at this
      exact this
    · rw [q]
    · have := h (j, i) (mem_prs.mpr ⟨q, hi⟩)
      unfold same at this
      simp only [e, decide_true, Bool.true_and, Bool.not_not, decide_eq_true_eq] at this
      exact this.symm
  · intro h p hp
    have := prs_lt hp
    cases e : same a p with
    | false => rfl
    | true =>
      have := h p.1 p.2 (by omega) (by omega) (of_decide_eq_true e)
      have e2 : same b p = true := decide_eq_true this
      rw [e2]; rfl
theorem foldS_nest {α : Type} (e : α → D) (f : Unit → D → R (Stp Unit)) (ok : α → Bool) : ∀ (xs : List α), (∀ x, x ∈ xs → f () (e x) = if ok x = true then .ok (.nx ()) else .ok (.rt (.bool false))) → R.foldS some f (xs.map e) () = if xs.all ok = true then .ok (.nx ()) else .ok (.rt (.bool false))
  | [], _ => rfl
  | x :: xs, h => by
    simp only [List.map_cons, R.foldS, ofO_some, bind_ok, h x List.mem_cons_self]
    by_cases hx : ok x = true
    · rw [if_pos hx, seq_nx, foldS_nest e f ok xs fun y hy => h y (List.mem_cons_of_mem _ hy), List.all_cons, hx, Bool.true_and]
    · rw [if_neg hx, seq_rt, List.all_cons, Bool.eq_false_iff.mpr hx, Bool.false_and]
      rfl


/-- how many things the groups share -/
def shr (a b : List Nat) (g f : Nat) : Nat := ((List.range a.length).filter fun k => decide (a.getD k 0 = g) && decide (b.getD k 0 = f)).length
def ctab (a b : List Nat) : List (List Nat) := (List.range (ng a)).map fun g => (List.range (ng b)).map fun f => shr a b g f
theorem foldP {α β : Type} (f : List D → D → R (List D)) (e : α → D) (g : α → β) (eb : β → D) : ∀ (xs : List α) (acc : List β), (∀ acc x, x ∈ xs → acc.length < LIM → f (acc.map eb) (e x) = .ok ((acc ++ [g x]).map eb)) → acc.length + xs.length ≤ LIM → R.fold some f (xs.map e) (acc.map eb) = .ok ((acc ++ xs.map g).map eb)
  | [], acc, _, _ => by simp [R.fold]
  | x :: xs, acc, hf, hl => by
    rw [List.length_cons] at hl
    simp only [List.map_cons, R.fold, ofO_some, bind_ok, hf acc x List.mem_cons_self (by omega)]
    rw [foldP f e g eb xs _ (fun acc y hy => hf acc y (List.mem_cons_of_mem _ hy)) (by rw [List.length_append, List.length_singleton]; omega), List.append_assoc]
    rfl
theorem zip_range {a b : List Nat} (hl : b.length = a.length) : a.zip b = (List.range a.length).map fun k => (a.getD k 0, b.getD k 0) := by
  apply List.ext_getElem?
  intro j
  rw [List.getElem?_map]
  by_cases h : j < a.length
  · rw [List.getElem?_range h]
    exact List.getElem?_zip_eq_some.mpr ⟨getD_get h, getD_get (by omega)⟩
  · rw [List.getElem?_eq_none (by rw [List.length_zip]; omega), List.getElem?_eq_none (by simpa using h)]
    rfl
theorem dEq_pD (p q : Nat × Nat) : dEq (pD p) (pD q) = some (.bool (decide (p = q))) := dEq_enc (α := Nat × Nat) (by decide) p q
theorem dMaxR_nL {row : List Nat} (h : row ≠ []) : ((((R.ofO (dMax (nL row :: []))).bind fun x => R.ofO (dAdd x (.int 1))).bind fun d => R.ok (d :: [])).bind fun ds => R.ofO (dRange1 ds)) = R.ofO (dRange1 [nI (ng row)]) := by
  rw [dMaxP_nL h, bind_ok, bind_ok]

theorem dAll_map {α : Type} (xs : List α) (p : α → Bool) : dAll (.list (xs.map fun x => .bool (p x)) :: []) = some (.bool (xs.all p)) := by
  have e : ∀ xs : List α, dBools (xs.map fun x => PyData.bool (p x)) = some (xs.map p) := fun xs => by
    induction xs with
    | nil => rfl
    | cons x xs ih => simp only [List.map_cons, dBools, ih, Option.map_some]
  simp only [dAll, e, Option.map_some]
  congr 2
  rw [List.all_map]
  rfl
/-- pairs of unlike things -/
def Prs (n : Nat) (ps : List (Nat × Nat)) : Prop := ps.length ≤ 21 ∧ ∀ p, p ∈ ps → p.1 < n ∧ p.2 < n ∧ p.1 ≠ p.2
theorem Prs.lt {n : Nat} {ps : List (Nat × Nat)} (h : Prs n ps) : ∀ p, p ∈ ps → p.1 < n ∧ p.2 < n := fun p hp => ⟨(h.2 p hp).1, (h.2 p hp).2.1⟩
abbrev pL (ps : List (Nat × Nat)) : D := .list (ps.map pD)
theorem dAt_p0 (p : Nat × Nat) : dAt (pD p) (.int 0) = some (nI p.1) := rfl
theorem dAt_p1 (p : Nat × Nat) : dAt (pD p) (.int 1) = some (nI p.2) := rfl
theorem foldS_skip {α : Type} (e : α → D) (f : Unit → D → R (Stp Unit)) : ∀ (xs : List α), (∀ x, x ∈ xs → f () (e x) = .ok (.nx ())) → R.foldS some f (xs.map e) () = .ok (.nx ())
  | [], _ => rfl
  | x :: xs, h => by
    simp only [List.map_cons, R.foldS, ofO_some, bind_ok, h x List.mem_cons_self, seq_nx]
    exact foldS_skip e f xs fun y hy => h y (List.mem_cons_of_mem _ hy)
theorem dEq_pL (xs ys : List (Nat × Nat)) : dEq (pL xs) (pL ys) = some (.bool (decide (xs = ys))) := dEq_enc (α := List (Nat × Nat)) (by decide) xs ys
theorem dNe_pL (xs ys : List (Nat × Nat)) : dNe (pL xs) (pL ys) = some (.bool (!decide (xs = ys))) := dNe_enc (α := List (Nat × Nat)) (by decide) xs ys
theorem same_Dne {row : List Nat} {p : Nat × Nat} (h1 : p.1 < row.length) (h2 : p.2 < row.length) : ((R.ofO (dAt (nL row) (nI p.1))).bind fun x23 => (R.ofO (dAt (nL row) (nI p.2))).bind fun x24 => R.ofO (dNe x23 x24)) = .ok (.bool (!same row p)) := by
  rw [dAt_nL h1, dAt_nL h2]
  simp only [ofO_some, bind_ok, dNe_nat, same]













/-! rows in order -/
def toI (row : List Nat) : List Int := row.map fun (k : Nat) => (k : Int)
theorem rowD_toI (row : List Nat) : rowD (toI row) = nL row := by
  unfold rowD toI
  rw [List.map_map]
  rfl
theorem dRows_nLL : ∀ rows : List (List Nat), dRows (rows.map nL) = some (rows.map toI)
  | [] => rfl
  | row :: rows => by
    simp only [List.map_cons, dRows, dInts_nat, Option.bind_some, dRows_nLL rows, Option.map_some]
    rfl
theorem dSortR_nLL {rows : List (List Nat)} (h : rows.length ≤ LIM) : dSortR [nLL rows] = some (.list ((sortR (rows.map toI)).map rowD)) := by
  show (if (rows.map nL).length ≤ LIM then (dRows (rows.map nL)).map (fun rs => PyData.list ((sortR rs).map rowD)) else none) = _
  rw [if_pos (by rw [List.length_map]; exact h), dRows_nLL]
  rfl
/-- what is known to be the rows in order -/
theorem dSortR_eq {rows out : List (List Nat)} (h : rows.length ≤ LIM) (hp : rows.Perm out) (hs : (out.map toI).Pairwise (· ≤ ·)) : dSortR [nLL rows] = some (nLL out) := by
  rw [dSortR_nLL h, sortedR_unique ((sortR_perm _).trans (hp.map toI)) (sortR_sorted _) hs, List.map_map]
  congr 2
  refine List.map_congr_left fun row _ => ?_
  exact rowD_toI row
theorem sorted_of {rows : List (List Nat)} (h : sortR (rows.map toI) = rows.map toI) : (rows.map toI).Pairwise (· ≤ ·) := by rw [← h]; exact sortR_sorted _
theorem allG_sorted : ∀ n, n ≤ 7 → ((allG n).map toI).Pairwise (· ≤ ·)
  | 0, _ => sorted_of (by kernel_rfl)
  | 1, _ => sorted_of (by kernel_rfl)
  | 2, _ => sorted_of (by kernel_rfl)
  | 3, _ => sorted_of (by kernel_rfl)
  | 4, _ => sorted_of (by kernel_rfl)
  | 5, _ => sorted_of (by kernel_rfl)
  | 6, _ => sorted_of (by kernel_rfl)
  | 7, _ => sorted_of (by kernel_rfl)
  | n + 8, h => absurd h (by omega)
theorem filter_sorted {rows : List (List Nat)} (h : (rows.map toI).Pairwise (· ≤ ·)) (p : List Nat → Bool) : ((rows.filter p).map toI).Pairwise (· ≤ ·) := by
  rw [List.pairwise_map] at h ⊢
  exact h.filter p
/-- any choice among what may be chosen -/
theorem wcomp_sel {α β : Type} (e : α → D) (dec : D → Option β) (k : α → β) (t : β → WP Bool) (y : β → WP D) (g : α → D) (q : α → Prop) : ∀ (xs : List α) (P : List D → Prop) (E : Nat → Prop), (∀ x, x ∈ xs → dec (e x) = some (k x)) → (∀ x, x ∈ xs → ∀ (P : Bool → Prop) (E : Nat → Prop), P false → (q x → P true) → (t (k x)).run P E) → (∀ x, x ∈ xs → y (k x) = .ret (g x)) →
    (∀ ys : List α, ys.Sublist xs → (∀ z, z ∈ ys → q z) → P (ys.map g)) → (WP.comp dec t y (xs.map e)).run P E
  | [], P, E, _, _, _, hp => hp [] (List.Sublist.refl _) fun _ h => nomatch h
  | x :: xs, P, E, hd, ht, hy, hp => by
    have tail : ∀ P' : List D → Prop, (∀ ys : List α, ys.Sublist xs → (∀ z, z ∈ ys → q z) → P' (ys.map g)) → (WP.comp dec t y (xs.map e)).run P' E := fun P' h => wcomp_sel e dec k t y g q xs P' E (fun z hz => hd z (List.mem_cons_of_mem _ hz)) (fun z hz => ht z (List.mem_cons_of_mem _ hz)) (fun z hz => hy z (List.mem_cons_of_mem _ hz)) h
    show ((WP.opt (dec (e x))).bind _).run P E
    rw [run_bind]
    refine optR _ (hd x List.mem_cons_self) ?_
    show (t (k x)).run _ _
    refine ht x List.mem_cons_self _ _ ?_ fun hq => ?_
    · show (WP.comp dec t y (xs.map e)).run P E
      exact tail P fun ys hs hq => hp ys (hs.cons x) hq
    · show ((y (k x)).noE.bind _).run P E
      rw [hy x List.mem_cons_self]
      show (WP.comp dec t y (xs.map e)).run (fun zs => P (g x :: zs)) E
      exact tail _ fun ys hs hq' => hp (x :: ys) (hs.cons₂ x) fun z hz => by
        rcases List.mem_cons.mp hz with rfl | hz
        · exact hq
        · exact hq' z hz
/-! finer and coarser -/
theorem nodup_sub {α : Type} [DecidableEq α] : ∀ {xs ys : List α}, xs.Nodup → (∀ x, x ∈ xs → x ∈ ys) → xs.length ≤ ys.length
  | [], _, _, _ => Nat.zero_le _
  | x :: xs, ys, hn, hs => by
    have hn' := List.nodup_cons.mp hn
    have hx := hs x List.mem_cons_self
    have h1 : xs.length ≤ (ys.erase x).length := nodup_sub hn'.2 fun y hy => by
      have hne : y ≠ x := fun e => hn'.1 (e ▸ hy)
      exact (List.mem_erase_of_ne hne).mpr (hs y (List.mem_cons_of_mem _ hy))
    rw [List.length_erase_of_mem hx] at h1
    have := List.length_pos_of_mem hx
    rw [List.length_cons]
    omega
theorem dd_nodup {α : Type} [DecidableEq α] : ∀ xs : List α, (dd xs).Nodup := by
  refine snoc_ind (by simp [dd, nfold]) fun xs y ih => ?_
  rw [dd_snoc]
  split
  · exact ih
  · rename_i h
    rw [List.nodup_append]
    refine ⟨ih, by simp, fun u hu v hv e => ?_⟩
    rw [List.mem_singleton] at hv
    exact h (hv ▸ e ▸ hu)
theorem ex_at {a : List Nat} (h : chk 0 a = true) {g : Nat} (hg : g < ng a) : ∃ k, k < a.length ∧ a.getD k 0 = g := by
  obtain ⟨k, hk, e⟩ := List.getElem_of_mem (chk_onto h hg)
  exact ⟨k, hk, by rw [List.getD_eq_getElem?_getD, List.getElem?_eq_getElem hk, ← e]; rfl⟩
theorem at_lt {a : List Nat} {k : Nat} (h : k < a.length) : a.getD k 0 < ng a := lt_ng (getD_mem h)
theorem fnr_refl (a : List Nat) : fnr a a = true := fnr_iff.mpr fun _ _ _ _ e => e
theorem fnr_trans {a b c : List Nat} (hl : b.length = a.length) (h1 : fnr a b = true) (h2 : fnr b c = true) : fnr a c = true :=
  fnr_iff.mpr fun i j hi hj e => fnr_iff.mp h2 i j (by omega) (by omega) (fnr_iff.mp h1 i j hi hj e)
theorem fnr_antisymm {a b : List Nat} (ha : chk 0 a = true) (hb : chk 0 b = true) (hl : b.length = a.length) (h1 : fnr a b = true) (h2 : fnr b a = true) : a = b := by
  refine chk_ext a b hl ha hb fun p hp => ?_
  have := prs_lt hp
  unfold same
  exact decide_eq_decide.mpr ⟨fnr_iff.mp h1 p.1 p.2 (by omega) (by omega), fnr_iff.mp h2 p.1 p.2 (by omega) (by omega)⟩
theorem ng_anti {a t : List Nat} (ha : chk 0 a = true) (ht : chk 0 t = true) (hl : t.length = a.length) (h : fnr a t = true) : ng t ≤ ng a := by
  have key := nodup_sub (xs := List.range (ng t)) (ys := (List.range (ng a)).map fun g => ((pos g a).map fun k => t.getD k 0).getD 0) List.nodup_range fun x hx => by
    obtain ⟨k, hk, e⟩ := ex_at ht (List.mem_range.mp hx)
    refine List.mem_map.mpr ⟨a.getD k 0, List.mem_range.mpr (at_lt (by omega)), ?_⟩
    obtain ⟨j, hj, hjl⟩ := pos_mem (getD_mem (row := a) (k := k) (by omega))
    have hj1 := (pos_some hj).1
    rw [getD_get hjl] at hj1
    rw [hj]
    show t.getD j 0 = x
    rw [← e]
    exact fnr_iff.mp h j k hjl (by omega) (Option.some.inj hj1)
  rw [List.length_range, List.length_map, List.length_range] at key
  exact key
/-- two groups made one -/
def mg (a : List Nat) (g h : Nat) : List Nat := numb (a.map fun x => if x = h then g else x)
theorem mg_len (a : List Nat) (g h : Nat) : (mg a g h).length = a.length := by unfold mg; rw [numb_length, List.length_map]
theorem mg_chk (a : List Nat) (g h : Nat) : chk 0 (mg a g h) = true := (numb_chk _).1
theorem mg_grp {a : List Nat} (ha : Grp a) (g h : Nat) : Grp (mg a g h) := ⟨by rw [mg_len]; exact ha.1, by rw [mg_len]; exact ha.2.1, mg_chk a g h⟩
theorem getD_map {a : List Nat} {k : Nat} (h : k < a.length) (f : Nat → Nat) : (a.map f).getD k 0 = f (a.getD k 0) := by
  rw [List.getD_eq_getElem?_getD, List.getElem?_map, getD_get h]
  rfl
theorem mg_together {a : List Nat} {g h i j : Nat} (hi : i < a.length) (hj : j < a.length) : (mg a g h).getD i 0 = (mg a g h).getD j 0 ↔ (if a.getD i 0 = h then g else a.getD i 0) = if a.getD j 0 = h then g else a.getD j 0 := by
  unfold mg
  rw [numb_getD (by rw [List.length_map]; exact hi) (by rw [List.length_map]; exact hj), getD_map hi, getD_map hj]
theorem fnr_mg (a : List Nat) (g h : Nat) : fnr a (mg a g h) = true := fnr_iff.mpr fun i j hi hj e => (mg_together hi hj).mpr (by rw [e])
theorem ng_mg {a : List Nat} (ha : chk 0 a = true) {g h : Nat} (hg : g < ng a) (hh : h < ng a) (hne : g ≠ h) : ng (mg a g h) + 1 = ng a := by
  unfold mg
  rw [(numb_chk _).2]
  have hp : (dd (a.map fun x => if x = h then g else x)).Perm ((List.range (ng a)).filter fun x => decide (x ≠ h)) := by
    refine (List.perm_ext_iff_of_nodup (dd_nodup _) (List.nodup_range.filter _)).mpr fun x => ?_
    rw [mem_dd, List.mem_map, List.mem_filter, List.mem_range, decide_eq_true_eq]
    constructor
    · rintro ⟨y, hy, rfl⟩
      split
      · exact ⟨hg, hne⟩
      · rename_i q; exact ⟨lt_ng hy, q⟩
    · rintro ⟨h1, h2⟩
      exact ⟨x, chk_onto ha h1, if_neg h2⟩
  rw [hp.length_eq]
  have := (List.filter_append_perm (fun x => decide (x ≠ h)) (List.range (ng a))).length_eq
  rw [List.length_append, List.length_range] at this
  have e : (List.range (ng a)).filter (fun x => !decide (x ≠ h)) = [h] := filter_one (g := h) hh _ fun i _ => by simp [eq_comm]
  rw [e, List.length_singleton] at this
  exact this
theorem fnr_mg_of {a t : List Nat} (hl : t.length = a.length) (h : fnr a t = true) {i j : Nat} (hi : i < a.length) (hj : j < a.length) (e : t.getD i 0 = t.getD j 0) : fnr (mg a (a.getD i 0) (a.getD j 0)) t = true := by
  refine fnr_iff.mpr fun k l hk hl' ee => ?_
  rw [mg_len] at hk hl'
  rw [mg_together hk hl'] at ee
  have f := fnr_iff.mp h
  by_cases h1 : a.getD k 0 = a.getD j 0
  · have tk := f k j hk hj h1
    rw [if_pos h1] at ee
    by_cases h2 : a.getD l 0 = a.getD j 0
    · rw [tk, f l j hl' hj h2]
    · rw [if_neg h2] at ee
      rw [tk, ← e, f i l hi hl' ee]
  · rw [if_neg h1] at ee
    by_cases h2 : a.getD l 0 = a.getD j 0
    · rw [if_pos h2] at ee
      rw [f k i hk hi ee, e, f l j hl' hj h2]
    · rw [if_neg h2] at ee
      exact f k l hk hl' ee
theorem ng_strict {a t : List Nat} (ha : chk 0 a = true) (ht : chk 0 t = true) (hl : t.length = a.length) (h : fnr a t = true) {i j : Nat} (hi : i < a.length) (hj : j < a.length) (e : t.getD i 0 = t.getD j 0) (ne : a.getD i 0 ≠ a.getD j 0) : ng t + 1 ≤ ng a := by
  have h1 := ng_mg ha (at_lt hi) (at_lt hj) ne
  have h2 := ng_anti (mg_chk a _ _) ht (by rw [mg_len, hl]) (fnr_mg_of hl h hi hj e)
  omega
theorem ex_split {a t : List Nat} (ha : chk 0 a = true) (ht : chk 0 t = true) (hl : t.length = a.length) (h : fnr a t = true) (ne : a ≠ t) : ∃ i j, i < a.length ∧ j < a.length ∧ a.getD i 0 ≠ a.getD j 0 ∧ t.getD i 0 = t.getD j 0 := by
  refine Classical.byContradiction fun z => ne (fnr_antisymm ha ht hl h (fnr_iff.mpr fun i j hi hj e => ?_))
  exact Classical.byContradiction fun q => z ⟨i, j, by omega, by omega, q, e⟩
theorem eq_of_ng {a t : List Nat} (ha : chk 0 a = true) (ht : chk 0 t = true) (hl : t.length = a.length) (h : fnr a t = true) (e : ng a ≤ ng t) : a = t := Classical.byContradiction fun ne => by
  obtain ⟨i, j, hi, hj, h1, h2⟩ := ex_split ha ht hl h ne
  have := ng_strict ha ht hl h hi hj h2 h1
  omega
/-! joins -/
theorem jn_chk (a b : List Nat) : chk 0 (jn a b) = true := (numb_chk _).1
theorem fnr_jnL (a b : List Nat) : fnr a (jn a b) = true := fnr_iff.mpr fun i j hi hj e => (jn_together hi hj).mpr (.edge (mem_jedges.mpr ⟨⟨hi, hj⟩, .inl e⟩))
theorem fnr_jnR {a b : List Nat} (hl : b.length = a.length) : fnr b (jn a b) = true := fnr_iff.mpr fun i j hi hj e => (jn_together (by omega) (by omega)).mpr (.edge (mem_jedges.mpr ⟨⟨by omega, by omega⟩, .inr e⟩))
theorem jn_lub {a b t : List Nat} (hl : b.length = a.length) (h1 : fnr a t = true) (h2 : fnr b t = true) : fnr (jn a b) t = true := fnr_iff.mpr fun i j hi hj e => by
  rw [jn_len] at hi hj
  refine Conn.resp (g := fun k => t.getD k 0) (fun x y hxy => ?_) ((jn_together hi hj).mp e)
  obtain ⟨⟨hx, hy⟩, q⟩ := mem_jedges.mp hxy
  rcases q with q | q
  · exact fnr_iff.mp h1 x y hx hy q
  · exact fnr_iff.mp h2 x y (by omega) (by omega) q
theorem jn_comm {a b : List Nat} (hl : b.length = a.length) : jn a b = jn b a :=
  fnr_antisymm (jn_chk a b) (jn_chk b a) (by rw [jn_len, jn_len, hl]) (jn_lub hl (fnr_jnR hl.symm) (fnr_jnL b a)) (jn_lub hl.symm (fnr_jnR hl) (fnr_jnL a b))
theorem jn_of_fnr {a b : List Nat} (hb : chk 0 b = true) (hl : b.length = a.length) (h : fnr a b = true) : jn a b = b :=
  fnr_antisymm (jn_chk a b) hb (by rw [jn_len, hl]) (jn_lub hl h (fnr_refl b)) (fnr_jnR hl)
theorem mt_chk (a b : List Nat) : chk 0 (mt a b) = true := (numb_chk _).1
theorem mt_together {a b : List Nat} (hl : b.length = a.length) {i j : Nat} (hi : i < a.length) (hj : j < a.length) : (mt a b).getD i 0 = (mt a b).getD j 0 ↔ a.getD i 0 = a.getD j 0 ∧ b.getD i 0 = b.getD j 0 := by
  have := same_mt hl (p := (i, j)) hi hj
  unfold same at this
  rw [← Bool.decide_and] at this
  exact decide_eq_decide.mp this
theorem fnr_mtL {a b : List Nat} (hl : b.length = a.length) : fnr (mt a b) a = true := fnr_iff.mpr fun i j hi hj e => by
  rw [mt_len hl] at hi hj
  exact ((mt_together hl hi hj).mp e).1
theorem fnr_mtR {a b : List Nat} (hl : b.length = a.length) : fnr (mt a b) b = true := fnr_iff.mpr fun i j hi hj e => by
  rw [mt_len hl] at hi hj
  exact ((mt_together hl hi hj).mp e).2
theorem mt_glb {a b t : List Nat} (hl : b.length = a.length) (htl : t.length = a.length) (h1 : fnr t a = true) (h2 : fnr t b = true) : fnr t (mt a b) = true := fnr_iff.mpr fun i j hi hj e =>
  (mt_together hl (by omega) (by omega)).mpr ⟨fnr_iff.mp h1 i j hi hj e, fnr_iff.mp h2 i j hi hj e⟩
theorem mt_of_fnr {a b : List Nat} (ha : chk 0 a = true) (hl : b.length = a.length) (h : fnr a b = true) : mt a b = a :=
  fnr_antisymm (mt_chk a b) ha (by rw [mt_len hl]) (fnr_mtL hl) (mt_glb hl rfl (fnr_refl a) h)
theorem mt_eq_iff {a b : List Nat} (ha : chk 0 a = true) (hl : b.length = a.length) : mt a b = a ↔ fnr a b = true := ⟨fun h => by have := fnr_mtR (a := a) (b := b) hl; rwa [h] at this, mt_of_fnr ha hl⟩
/-- one joining more costs at most one group of the other -/
theorem ng_jn_mg {c P : List Nat} (hP : chk 0 P = true) (hl : P.length = c.length) (h : fnr c P = true) {i j : Nat} (hi : i < c.length) (hj : j < c.length) : ng P ≤ ng (jn P (mg c (c.getD i 0) (c.getD j 0))) + 1 := by
  have hm : fnr (mg c (c.getD i 0) (c.getD j 0)) (mg P (P.getD i 0) (P.getD j 0)) = true := by
    refine fnr_mg_of (by rw [mg_len, hl]) (fnr_trans hl h (fnr_mg P _ _)) hi hj ?_
    rw [mg_together (by omega) (by omega), if_pos rfl]
    split <;> rfl
  have hl2 : (mg c (c.getD i 0) (c.getD j 0)).length = P.length := by rw [mg_len, hl]
  have hf := jn_lub hl2 (fnr_mg P (P.getD i 0) (P.getD j 0)) hm
  have h1 := ng_anti (jn_chk _ _) (mg_chk P _ _) (by rw [mg_len, jn_len]) hf
  by_cases e : P.getD i 0 = P.getD j 0
  · have : mg P (P.getD i 0) (P.getD j 0) = P := by
      unfold mg
      rw [e]
      have : P.map (fun x => if x = P.getD j 0 then P.getD j 0 else x) = P := by
        conv => rhs; rw [← List.map_id P]
        refine List.map_congr_left fun x _ => ?_
        by_cases q : x = P.getD j 0
        · rw [if_pos q, q]; rfl
        · rw [if_neg q]; rfl
      rw [this, (numb_self P hP).1]
    rw [this] at h1
    omega
  · have := ng_mg hP (at_lt (by omega)) (at_lt (by omega)) e
    omega
theorem semi : ∀ (d : Nat) (c P Q : List Nat), ng c - ng Q ≤ d → chk 0 c = true → chk 0 P = true → chk 0 Q = true → P.length = c.length → Q.length = c.length → fnr c P = true → fnr c Q = true → ng P + ng Q ≤ ng c + ng (jn P Q)
  | d, c, P, Q, hd, hc, hP, hQ, lP, lQ, fP, fQ => by
    by_cases e : c = Q
    · subst e
      have : jn P c = P := by rw [jn_comm (by omega)]; exact jn_of_fnr hP lP fP
      rw [this]
      omega
    · obtain ⟨i, j, hi, hj, h1, h2⟩ := ex_split hc hQ lQ fQ e
      have hs := ng_strict hc hQ lQ fQ hi hj h2 h1
      cases d with
      | zero => omega
      | succ d =>
        have hm := ng_mg hc (at_lt hi) (at_lt hj) h1
        have lc : (mg c (c.getD i 0) (c.getD j 0)).length = P.length := by rw [mg_len, lP]
        have k1 := ng_jn_mg hP lP fP hi hj
        have fcQ := fnr_mg_of lQ fQ hi hj h2
        have ih := semi d (mg c (c.getD i 0) (c.getD j 0)) (jn P (mg c (c.getD i 0) (c.getD j 0))) Q (by omega) (mg_chk _ _ _) (jn_chk _ _) hQ (by rw [jn_len, lc]) (by rw [mg_len, lQ]) (fnr_jnR lc) fcQ
        have lQP : Q.length = P.length := by omega
        have f2 : fnr (jn P Q) (jn (jn P (mg c (c.getD i 0) (c.getD j 0))) Q) = true := jn_lub lQP (fnr_trans (by rw [jn_len]) (fnr_jnL P _) (fnr_jnL _ Q)) (fnr_jnR (by rw [jn_len]; omega))
        have := ng_anti (jn_chk P Q) (jn_chk _ _) (by rw [jn_len, jn_len, jn_len]) f2
        omega
theorem tri_jn {a b c : List Nat} (hc : chk 0 c = true) (hb : b.length = a.length) (hcl : c.length = a.length) : ng (jn a c) + ng (jn c b) ≤ ng c + ng (jn a b) := by
  have h := semi _ c (jn a c) (jn c b) (Nat.le_refl _) hc (jn_chk _ _) (jn_chk _ _) (by rw [jn_len, hcl]) (by rw [jn_len]) (fnr_jnR hcl) (fnr_jnL c b)
  have f2 : fnr (jn a b) (jn (jn a c) (jn c b)) = true := jn_lub hb (fnr_trans (by rw [jn_len]) (fnr_jnL a c) (fnr_jnL _ _)) (fnr_trans (by rw [jn_len]; omega) (fnr_jnR (a := c) (by omega)) (fnr_jnR (by rw [jn_len, jn_len]; omega)))
  have := ng_anti (jn_chk a b) (jn_chk _ _) (by rw [jn_len, jn_len, jn_len]) f2
  omega
/-- the number of steps -/
def stps (a b : List Nat) : Nat := ng a + ng b - 2 * ng (jn a b)
theorem ng_jn_le {a b : List Nat} (ha : chk 0 a = true) (hb : chk 0 b = true) (hl : b.length = a.length) : ng (jn a b) ≤ ng a ∧ ng (jn a b) ≤ ng b := ⟨ng_anti ha (jn_chk _ _) (by rw [jn_len]) (fnr_jnL a b), ng_anti hb (jn_chk _ _) (by rw [jn_len, hl]) (fnr_jnR hl)⟩
theorem stp_tri {a b c : List Nat} (ha : chk 0 a = true) (hb : chk 0 b = true) (hc : chk 0 c = true) (hl : b.length = a.length) (hcl : c.length = a.length) : stps a b ≤ stps a c + stps c b := by
  have h1 := tri_jn hc hl hcl
  have h2 := ng_jn_le ha hc hcl
  have h3 := ng_jn_le hc hb (by omega)
  have h4 := ng_jn_le ha hb hl
  unfold stps
  omega
theorem stp_zero {a b : List Nat} (ha : chk 0 a = true) (hb : chk 0 b = true) (hl : b.length = a.length) : stps a b = 0 ↔ a = b := by
  have h4 := ng_jn_le ha hb hl
  constructor
  · intro h
    unfold stps at h
    have e1 := eq_of_ng ha (jn_chk a b) (by rw [jn_len]) (fnr_jnL a b) (by omega)
    have e2 := eq_of_ng hb (jn_chk a b) (by rw [jn_len, hl]) (fnr_jnR hl) (by omega)
    exact e1.trans e2.symm
  · rintro rfl
    unfold stps
    rw [jn_of_fnr ha rfl (fnr_refl a)]
    omega
/-! rows sorted -/
def ofI (r : List Int) : List Nat := r.map Int.toNat
theorem ofI_toI (row : List Nat) : ofI (toI row) = row := by
  unfold ofI toI
  rw [List.map_map]
  conv => rhs; rw [← List.map_id row]
  refine List.map_congr_left fun x _ => ?_
  simp
def sortN (rows : List (List Nat)) : List (List Nat) := (sortR (rows.map toI)).map ofI
theorem sortN_perm (rows : List (List Nat)) : (sortN rows).Perm rows := by
  have h := (sortR_perm (rows.map toI)).map ofI
  rw [List.map_map] at h
  have e : rows.map (ofI ∘ toI) = rows := by
    conv => rhs; rw [← List.map_id rows]
    exact List.map_congr_left fun x _ => ofI_toI x
  rw [e] at h
  exact h
theorem sortN_toI (rows : List (List Nat)) : (sortN rows).map toI = sortR (rows.map toI) := by
  unfold sortN
  rw [List.map_map]
  conv => rhs; rw [← List.map_id (sortR (rows.map toI))]
  refine List.map_congr_left fun x hx => ?_
  obtain ⟨r, _, rfl⟩ := List.mem_map.mp ((sortR_perm _).mem_iff.mp hx)
  show toI (ofI (toI r)) = toI r
  rw [ofI_toI]
theorem sortN_sorted (rows : List (List Nat)) : ((sortN rows).map toI).Pairwise (· ≤ ·) := by rw [sortN_toI]; exact sortR_sorted _
theorem dSortR_sortN {rows : List (List Nat)} (h : rows.length ≤ LIM) : dSortR [nLL rows] = some (nLL (sortN rows)) := dSortR_eq h (sortN_perm rows).symm (sortN_sorted rows)
/-- joined by two groups -/
def jraw (a : List Nat) : List (List Nat) := (List.range (ng a)).flatMap fun low => (List.range (ng a - (low + 1))).map fun i => mg a low (low + 1 + i)
theorem mem_jraw {a r : List Nat} : r ∈ jraw a ↔ ∃ low high, low < high ∧ high < ng a ∧ r = mg a low high := by
  unfold jraw
  rw [List.mem_flatMap]
  constructor
  · rintro ⟨low, h1, h2⟩
    obtain ⟨i, hi, rfl⟩ := List.mem_map.mp h2
    have := List.mem_range.mp h1
    have := List.mem_range.mp hi
    exact ⟨low, low + 1 + i, by omega, by omega, rfl⟩
  · rintro ⟨low, high, h1, h2, rfl⟩
    exact ⟨low, List.mem_range.mpr (by omega), List.mem_map.mpr ⟨high - (low + 1), List.mem_range.mpr (by omega), by congr 1; omega⟩⟩
theorem jraw_len {a : List Nat} (h : ng a ≤ 7) : (jraw a).length ≤ 49 := by
  unfold jraw
  rw [List.length_flatMap]
  have : ∀ n, n ≤ 7 → (((List.range n).map fun low => ((List.range (n - (low + 1))).map fun i => mg a low (low + 1 + i)).length)).sum ≤ 49 := fun n hn => by
    simp only [List.length_map, List.length_range]
    have : ∀ n, n < 8 → ((List.range n).map fun low => n - (low + 1)).sum ≤ 49 := by decide
    exact this n (by omega)
  exact this _ h
def jngs (a : List Nat) : List (List Nat) := sortN (jraw a)
theorem mem_jngs {a r : List Nat} : r ∈ jngs a ↔ ∃ low high, low < high ∧ high < ng a ∧ r = mg a low high := by
  unfold jngs
  rw [(sortN_perm _).mem_iff, mem_jraw]
theorem mg_comm {a : List Nat} {g h : Nat} : mg a g h = mg a h g := by
  unfold mg
  refine numb_congrN (by simp) fun i j hi hj => ?_
  rw [List.length_map] at hi hj
  rw [getD_map hi, getD_map hj, getD_map hi, getD_map hj]
  generalize a.getD i 0 = x
  generalize a.getD j 0 = y
  by_cases h1 : x = h <;> by_cases h2 : y = h <;> by_cases h3 : x = g <;> by_cases h4 : y = g <;> simp_all <;> omega
/-- the next grouping on the way up -/
theorem up_ex {a g : List Nat} (ha : chk 0 a = true) (hg : chk 0 g = true) (hl : g.length = a.length) (h : fnr a g = true) (ne : a ≠ g) : ∃ r, r ∈ (jngs a).filter fun row => decide (mt row g = row) := by
  obtain ⟨i, j, hi, hj, h1, h2⟩ := ex_split ha hg hl h ne
  have key : ∀ i j, i < a.length → j < a.length → a.getD i 0 < a.getD j 0 → g.getD i 0 = g.getD j 0 → ∃ r, r ∈ (jngs a).filter fun row => decide (mt row g = row) := fun i j hi hj hlt e => by
    refine ⟨mg a (a.getD i 0) (a.getD j 0), List.mem_filter.mpr ⟨mem_jngs.mpr ⟨_, _, hlt, at_lt hj, rfl⟩, ?_⟩⟩
    rw [decide_eq_true_eq, mt_eq_iff (mg_chk _ _ _) (by rw [mg_len, hl])]
    exact fnr_mg_of hl h hi hj e
  rcases Nat.lt_or_gt_of_ne h1 with q | q
  · exact key i j hi hj q h2
  · exact key j i hj hi q h2.symm
theorem jngs_step {a r : List Nat} (ha : chk 0 a = true) (h : r ∈ jngs a) : fnr a r = true ∧ ng r + 1 = ng a ∧ chk 0 r = true ∧ r.length = a.length := by
  obtain ⟨low, high, h1, h2, rfl⟩ := mem_jngs.mp h
  exact ⟨fnr_mg _ _ _, ng_mg ha (by omega) h2 (by omega), mg_chk _ _ _, mg_len _ _ _⟩
/-- a way up -/
inductive UpC : List Nat → List Nat → List (List Nat) → Prop
  | one (g : List Nat) : UpC g g [g]
  | cons {a b g : List Nat} {ch : List (List Nat)} : fnr a b = true → ng b + 1 = ng a → chk 0 b = true → b.length = a.length → UpC b g ch → UpC a g (a :: ch)
/-- one joining or division -/
def Stp1 (x y : List Nat) : Prop := (ng x = ng y + 1 ∧ fnr x y = true) ∨ (ng y = ng x + 1 ∧ fnr y x = true)
def Adj : List (List Nat) → Prop
  | [] => True
  | [_] => True
  | x :: y :: r => Stp1 x y ∧ Adj (y :: r)
theorem Adj.app : ∀ {xs ys : List (List Nat)} {m : List Nat}, Adj (xs ++ [m]) → Adj (m :: ys) → Adj (xs ++ m :: ys)
  | [], _, _, _, h => h
  | [x], ys, m, h1, h2 => ⟨h1.1, h2⟩
  | x :: y :: r, ys, m, h1, h2 => ⟨h1.1, Adj.app (xs := y :: r) h1.2 h2⟩
theorem Stp1.symm {x y : List Nat} (h : Stp1 x y) : Stp1 y x := h.elim .inr .inl
theorem Adj.rev : ∀ {xs : List (List Nat)}, Adj xs → Adj xs.reverse
  | [], _ => trivial
  | [_], _ => trivial
  | x :: y :: r, h => by
    have ih := Adj.rev (xs := y :: r) h.2
    rw [List.reverse_cons, List.reverse_cons, List.append_assoc]
    rw [List.reverse_cons] at ih
    exact Adj.app ih ⟨h.1.symm, trivial⟩
theorem Adj.at : ∀ {xs : List (List Nat)} {k : Nat} {x y : List Nat}, Adj xs → xs[k]? = some x → xs[k + 1]? = some y → Stp1 x y
  | [], _, _, _, _, h, _ => by simp at h
  | [_], 0, _, _, _, _, h => by simp at h
  | [_], k + 1, _, _, _, h, _ => by simp at h
  | a :: b :: r, 0, x, y, h, h1, h2 => by
    simp at h1 h2
    rw [← h1, ← h2]
    exact h.1
  | a :: b :: r, k + 1, x, y, h, h1, h2 => Adj.at (xs := b :: r) (k := k) h.2 (by simpa using h1) (by simpa using h2)
theorem UpC.adj {a g : List Nat} {ch : List (List Nat)} (h : UpC a g ch) : Adj ch := by
  induction h with
  | one => trivial
  | cons h1 h2 h3 h4 h5 ih =>
    cases h5 with
    | one => exact ⟨.inl ⟨h2.symm, h1⟩, trivial⟩
    | cons => exact ⟨.inl ⟨h2.symm, h1⟩, ih⟩
theorem UpC.head {a g : List Nat} {ch : List (List Nat)} (h : UpC a g ch) : ∃ r, ch = a :: r := by cases h <;> exact ⟨_, rfl⟩
theorem UpC.last {a g : List Nat} {ch : List (List Nat)} (h : UpC a g ch) : ∃ r, ch = r ++ [g] := by
  induction h with
  | one => exact ⟨[], rfl⟩
  | cons h1 h2 h3 h4 h5 ih =>
    obtain ⟨r, e⟩ := ih
    exact ⟨_ :: r, by rw [e]; rfl⟩
theorem UpC.len {a g : List Nat} {ch : List (List Nat)} (h : UpC a g ch) : ch.length + ng g = ng a + 1 := by
  induction h with
  | one => simp; omega
  | cons h1 h2 h3 h4 h5 ih => rw [List.length_cons]; omega
theorem UpC.all {a g : List Nat} {ch : List (List Nat)} (h : UpC a g ch) (ha : chk 0 a = true) : ∀ x, x ∈ ch → chk 0 x = true ∧ x.length = a.length := by
  induction h with
  | one => intro x hx; rw [List.mem_singleton.mp hx]; exact ⟨ha, rfl⟩
  | cons h1 h2 h3 h4 h5 ih =>
    intro x hx
    rcases List.mem_cons.mp hx with rfl | hx
    · exact ⟨ha, rfl⟩
    · obtain ⟨k1, k2⟩ := ih h3 x hx
      exact ⟨k1, by omega⟩
theorem dAt_last {α : Type} (xs : List α) (e : α → D) (x : α) : dAt (.list ((xs ++ [x]).map e)) (.int (-1)) = some (e x) := by
  rw [List.map_append]
  exact L2.atI_last _ _
theorem dCut_one {α : Type} (xs : List α) (e : α → D) : dCut (some 1) none (.list (xs.map e)) = some (.list ((xs.drop 1).map e)) := by
  show some (PyData.list (cutD (xs.map e) (some 1) none)) = _
  unfold cutD
  have e2 : HT.sIx (xs.map e).length (xs.map e).length none = (xs.map e).length := rfl
  have e1 : HT.sIx (xs.map e).length 0 (some 1) = min 1 (xs.map e).length := HT.sIx_nat (k := 1) ..
  rw [e1, e2]
  congr 2
  cases xs with
  | nil => rfl
  | cons x r =>
    rw [show min 1 ((x :: r).map e).length = 1 by simp]
    rw [List.take_of_length_le (by simp)]
    simp
theorem dMul_small (a b : Int) (h1 : -(2 ^ 64) < a) (h2 : a < 2 ^ 64) : dMul (.int a) (.int b) = some (.int (a * b)) := by
  show (if (-(2 ^ 64) < a ∧ a < 2 ^ 64) ∨ (-(2 ^ 64) < b ∧ b < 2 ^ 64) then some (PyData.int (a * b)) else none) = _
  rw [if_pos (Or.inl ⟨h1, h2⟩)]





instance : Enc (Option Nat) where
  enc := fun o => match o with | some n => .int (n : Int) | none => .none
  eqv := fun a b => by
    cases a <;> cases b <;> simp only [PyData.eqv]
    · rfl
    · rfl
    · rfl
    · rw [Bool.beq_eq_decide_eq]
      exact decide_eq_decide.mpr ⟨fun h => by congr 1; omega, fun h => by cases h; rfl⟩
  lay := fun a => by cases a <;> simp only [PyData.canLay0]
  dp := 0
  dep := fun a => by cases a <;> simp [PyData.depth]
abbrev oN : Option Nat → D := enc
abbrev oL (w : List (Option Nat)) : D := .list (w.map oN)
def prgs : Nat → Nat → List (List (Option Nat))
  | 0, _ => [[]]
  | r + 1, c => (prgs r c).flatMap fun w => ((List.range c).filter fun j => !decide (some j ∈ w)).map (fun j => w ++ [some j]) ++ [w ++ [none]]
theorem prgs_len (c : Nat) : ∀ r, (prgs r c).length ≤ (c + 1) ^ r
  | 0 => by simp [prgs]
  | r + 1 => by
    have ih := prgs_len c r
    have key : ∀ l : List (List (Option Nat)), (l.flatMap fun w => ((List.range c).filter fun j => !decide (some j ∈ w)).map (fun j => w ++ [some j]) ++ [w ++ [none]]).length ≤ l.length * (c + 1) := fun l => by
      induction l with
      | nil => simp
      | cons w l ih =>
        rw [List.flatMap_cons, List.length_append, List.length_append, List.length_map, List.length_singleton, List.length_cons, Nat.succ_mul]
        have := List.length_filter_le (fun j => !decide (some j ∈ w)) (List.range c)
        rw [List.length_range] at this
        omega
    rw [Nat.pow_succ]
    exact Nat.le_trans (key _) (Nat.mul_le_mul_right _ ih)
/-- a pairing gives no column twice -/
def Prg (r c : Nat) (w : List (Option Nat)) : Prop := w.length = r ∧ (∀ j, some j ∈ w → j < c) ∧ ∀ (i i' j : Nat), w[i]? = some (some j) → w[i']? = some (some j) → i = i'
theorem mem_prgs {c : Nat} : ∀ {r : Nat} {w : List (Option Nat)}, w ∈ prgs r c ↔ Prg r c w
  | 0, w => by
    constructor
    · intro h
      have := List.mem_singleton.mp h
      subst this
      exact ⟨rfl, fun _ h => (nomatch h), fun _ _ _ h => by simp at h⟩
    · rintro ⟨h, _⟩
      exact List.mem_singleton.mpr (List.length_eq_zero_iff.mp h)
  | r + 1, w => by
    show w ∈ (prgs r c).flatMap _ ↔ _
    rw [List.mem_flatMap]
    constructor
    · rintro ⟨v, hv, hw⟩
      obtain ⟨v1, v2, v3⟩ := mem_prgs.mp hv
      have key : ∀ x : Option Nat, (∀ j, x = some j → j < c ∧ some j ∉ v) → Prg (r + 1) c (v ++ [x]) := fun x hx => by
        refine ⟨by simp [v1], fun j hj => ?_, fun i i' j h1 h2 => ?_⟩
        · rcases List.mem_append.mp hj with h | h
          · exact v2 j h
          · exact (hx j (List.mem_singleton.mp h).symm).1
        · have lt1 := (List.getElem?_eq_some_iff.mp h1).1
          have lt2 := (List.getElem?_eq_some_iff.mp h2).1
          rw [List.length_append, List.length_singleton] at lt1 lt2
          have at_last : (v ++ [x])[v.length]? = some x := by simp
          by_cases q1 : i < v.length <;> by_cases q2 : i' < v.length
          · rw [List.getElem?_append_left q1] at h1
            rw [List.getElem?_append_left q2] at h2
            exact v3 i i' j h1 h2
          · have : i' = v.length := by omega
            subst this
            rw [at_last] at h2
            rw [List.getElem?_append_left q1] at h1
            exact absurd (List.mem_of_getElem? h1) (hx j (Option.some.inj h2)).2
          · have : i = v.length := by omega
            subst this
            rw [at_last] at h1
            rw [List.getElem?_append_left q2] at h2
            exact absurd (List.mem_of_getElem? h2) (hx j (Option.some.inj h1)).2
          · omega
      rcases List.mem_append.mp hw with h | h
      · obtain ⟨j, hj, rfl⟩ := List.mem_map.mp h
        obtain ⟨j1, j2⟩ := List.mem_filter.mp hj
        exact key _ fun j' e => by
          cases e
          exact ⟨List.mem_range.mp j1, by simpa using j2⟩
      · rw [List.mem_singleton.mp h]
        exact key _ fun j' e => by cases e
    · rintro ⟨w1, w2, w3⟩
      have hne : w ≠ [] := fun z => by rw [z] at w1; cases w1
      have hw : w = w.dropLast ++ [w.getLast hne] := (List.dropLast_concat_getLast hne).symm
      generalize w.dropLast = v at hw
      generalize w.getLast hne = x at hw
      subst hw
      rw [List.length_append, List.length_singleton] at w1
      refine ⟨v, mem_prgs.mpr ⟨by omega, fun j hj => w2 j (List.mem_append_left _ hj), fun i i' j h1 h2 => ?_⟩, ?_⟩
      · have lt1 := (List.getElem?_eq_some_iff.mp h1).1
        have lt2 := (List.getElem?_eq_some_iff.mp h2).1
        exact w3 i i' j (by rw [List.getElem?_append_left lt1]; exact h1) (by rw [List.getElem?_append_left lt2]; exact h2)
      · cases x with
        | none => exact List.mem_append_right _ (List.mem_singleton.mpr rfl)
        | some j =>
          refine List.mem_append_left _ (List.mem_map.mpr ⟨j, List.mem_filter.mpr ⟨List.mem_range.mpr (w2 j (by simp)), ?_⟩, rfl⟩)
          rw [Bool.not_eq_true', decide_eq_false_iff_not]
          intro hj
          obtain ⟨i, hi⟩ := List.getElem?_of_mem hj
          have lt1 := (List.getElem?_eq_some_iff.mp hi).1
          have := w3 i v.length j (by rw [List.getElem?_append_left lt1]; exact hi) (by simp)
          omega
/-- the things moved under a pairing -/
def mvd (a b : List Nat) (w : List (Option Nat)) : List Nat := (List.range a.length).filter fun k => !decide (w.getD (a.getD k 0) none = some (b.getD k 0))
def whole (ct : List (List Nat)) (w : List (Option Nat)) : Nat := (((ct.zip w).filter fun p => p.2.isSome).map fun p => p.1.getD (p.2.getD 0) 0).sum
theorem sum_filter {α : Type} (q : α → Bool) (f : α → Nat) : ∀ xs : List α, ((xs.filter q).map f).sum = (xs.map fun x => if q x = true then f x else 0).sum
  | [] => rfl
  | x :: xs => by
    have ih := sum_filter q f xs
    rw [List.filter_cons, List.map_cons, List.sum_cons, ← ih]
    by_cases h : q x = true
    · rw [if_pos h, if_pos h]; rfl
    · rw [if_neg h, if_neg h, Nat.zero_add]
theorem sum_ind (m x : Nat) (h : Nat → Nat) (P : Bool) : ((List.range m).map fun g => (if decide (x = g) && P then 1 else 0) + h g).sum = (if x < m ∧ P = true then 1 else 0) + ((List.range m).map h).sum := by
  induction m with
  | zero => simp
  | succ m ih =>
    rw [List.range_succ, List.map_append, List.map_append, List.sum_append, List.sum_append, ih]
    simp only [List.map_cons, List.map_nil, List.sum_cons, List.sum_nil]
    cases P with
    | false => simp
    | true =>
      rcases Nat.lt_trichotomy x m with q | q | q
      · have h1 : ¬ x = m := by omega
        have h2 : x < m + 1 := by omega
        simp [q, h1, h2]
        omega
      · subst q
        simp
        omega
      · have h1 : ¬ x = m := by omega
        have h2 : ¬ x < m + 1 := by omega
        have h3 : ¬ x < m := by omega
        simp [h1, h2, h3]
theorem sum_parts (m : Nat) (f : Nat → Nat) (P : Nat → Bool) : ∀ L : List Nat, (∀ k, k ∈ L → f k < m) → ((List.range m).map fun g => (L.filter fun k => decide (f k = g) && P k).length).sum = (L.filter P).length
  | [], _ => by
    have : ∀ l : List Nat, (l.map fun _ => 0).sum = 0 := fun l => by
      induction l with
      | nil => rfl
      | cons x l ih => rw [List.map_cons, List.sum_cons, ih]
    exact this _
  | k :: L, h => by
    have ih := sum_parts m f P L fun k hk => h k (List.mem_cons_of_mem _ hk)
    have e : ∀ g, ((k :: L).filter fun k => decide (f k = g) && P k).length = (if decide (f k = g) && P k then 1 else 0) + (L.filter fun k => decide (f k = g) && P k).length := fun g => by
      rw [List.filter_cons]
      by_cases q : (decide (f k = g) && P k) = true
      · rw [if_pos q, if_pos q, List.length_cons]; omega
      · rw [if_neg q, if_neg q]; omega
    simp only [e]
    rw [sum_ind, ih, List.filter_cons]
    have := h k List.mem_cons_self
    by_cases q : P k = true
    · rw [if_pos q, if_pos ⟨this, q⟩, List.length_cons]; omega
    · rw [if_neg q, if_neg (fun z => q z.2)]; omega
theorem whole_eq {a b : List Nat} {w : List (Option Nat)} (hw : Prg (ng a) (ng b) w) : whole (ctab a b) w = ((List.range a.length).filter fun k => decide (w.getD (a.getD k 0) none = some (b.getD k 0))).length := by
  have ew : w = (List.range (ng a)).map fun g => w.getD g none := by
    conv => lhs; rw [← List.map_id w]
    rw [← hw.1]
    refine List.ext_getElem (by simp) fun i h1 h2 => ?_
    simp at h1 ⊢
    rw [List.getElem?_eq_getElem h1]
    rfl
  unfold whole
  rw [sum_filter]
  have ez : (ctab a b).zip w = (List.range (ng a)).map fun g => ((List.range (ng b)).map fun f => shr a b g f, w.getD g none) := by
    conv => lhs; rw [ew]
    unfold ctab
    rw [zip_map_self]
  rw [ez, List.map_map, ← sum_parts (ng a) (fun k => a.getD k 0) _ (List.range a.length) (fun k hk => at_lt (List.mem_range.mp hk))]
  congr 1
  refine List.map_congr_left fun g hg => ?_
  have hg := List.mem_range.mp hg
  show (if (w.getD g none).isSome = true then ((List.range (ng b)).map fun f => shr a b g f).getD ((w.getD g none).getD 0) 0 else 0) = _
  cases e : w.getD g none with
  | none =>
    rw [if_neg (by simp)]
    refine (List.length_eq_zero_iff.mpr (List.filter_eq_nil_iff.mpr fun k _ => ?_)).symm
    rw [Bool.and_eq_true, decide_eq_true_eq, decide_eq_true_eq]
    rintro ⟨rfl, z⟩
    rw [e] at z
    cases z
  | some j =>
    have hj : j < ng b := hw.2.1 j (by
      rw [List.getD_eq_getElem?_getD] at e
      cases e2 : w[g]? with
      | none => rw [e2] at e; cases e
      | some x => rw [e2] at e; cases e; exact List.mem_of_getElem? e2)
    show ((List.range (ng b)).map fun f => shr a b g f).getD j 0 = _
    have : ((List.range (ng b)).map fun f => shr a b g f).getD j 0 = shr a b g j := by simp [List.getD_eq_getElem?_getD, hj]
    rw [this]
    unfold shr
    congr 1
    refine List.filter_congr fun k hk => ?_
    rw [Bool.eq_iff_iff, Bool.and_eq_true, Bool.and_eq_true, decide_eq_true_eq, decide_eq_true_eq, decide_eq_true_eq]
    refine and_congr_right fun q => ?_
    rw [q, e]
    exact ⟨fun h => by rw [h], fun h => (Option.some.inj h).symm⟩
theorem len_split {α : Type} (p : α → Bool) : ∀ xs : List α, (xs.filter p).length + (xs.filter fun x => !p x).length = xs.length
  | [] => rfl
  | x :: xs => by
    have := len_split p xs
    rw [List.filter_cons, List.filter_cons, List.length_cons]
    cases p x <;> simp <;> omega
theorem mvd_whole {a b : List Nat} {w : List (Option Nat)} (hw : Prg (ng a) (ng b) w) : whole (ctab a b) w + (mvd a b w).length = a.length := by
  rw [whole_eq hw]
  have := len_split (fun k => decide (w.getD (a.getD k 0) none = some (b.getD k 0))) (List.range a.length)
  rw [List.length_range] at this
  exact this
/-- the fewest things to give elsewhere -/
def mvs (a b : List Nat) : Nat := mnL ((prgs (ng a) (ng b)).map fun w => (mvd a b w).length)
/-- things without which both groupings are alike -/
def Eno (a b : List Nat) (T : List Nat) : Prop := ∀ i j, i < a.length → j < a.length → i ∉ T → j ∉ T → (a.getD i 0 = a.getD j 0 ↔ b.getD i 0 = b.getD j 0)
theorem prgs_ne (r c : Nat) : prgs r c ≠ [] := fun z => by
  have : List.replicate r none ∈ prgs r c := mem_prgs.mpr ⟨List.length_replicate, fun j hj => by simp at hj, fun i i' j h => by
    rw [List.getElem?_replicate] at h
    split at h <;> simp at h⟩
  rw [z] at this
  cases this
theorem eno_mvd {a b : List Nat} {w : List (Option Nat)} (hw : Prg (ng a) (ng b) w) : Eno a b (mvd a b w) := by
  have key : ∀ i, i < a.length → i ∉ mvd a b w → w[a.getD i 0]? = some (some (b.getD i 0)) := fun i hi h => by
    have : w.getD (a.getD i 0) none = some (b.getD i 0) := Classical.byContradiction fun z => h (List.mem_filter.mpr ⟨List.mem_range.mpr hi, by simpa using z⟩)
    rw [List.getD_eq_getElem?_getD] at this
    cases e : w[a.getD i 0]? with
    | none => rw [e] at this; cases this
    | some x => rw [e] at this; rw [← this]; rfl
  intro i j hi hj h1 h2
  have k1 := key i hi h1
  have k2 := key j hj h2
  constructor
  · intro e
    rw [e, k2] at k1
    exact (Option.some.inj (Option.some.inj k1)).symm
  · intro e
    rw [e] at k1
    exact hw.2.2 _ _ _ k1 k2
/-- the pairing that things left alone make -/
def prOf (a b T : List Nat) : List (Option Nat) := (List.range (ng a)).map fun g => (((List.range a.length).find? fun k => decide (a.getD k 0 = g) && !decide (k ∈ T)).map fun k => b.getD k 0)
theorem prOf_prg {a b T : List Nat} (hl : b.length = a.length) (h : Eno a b T) : Prg (ng a) (ng b) (prOf a b T) := by
  have key : ∀ g x, (prOf a b T)[g]? = some (some x) → ∃ k, k < a.length ∧ a.getD k 0 = g ∧ k ∉ T ∧ b.getD k 0 = x := fun g x h => by
    unfold prOf at h
    rw [List.getElem?_map] at h
    by_cases hg : g < ng a
    · rw [List.getElem?_range hg, Option.map_some] at h
      have h := Option.some.inj h
      obtain ⟨k, hk, e⟩ := Option.map_eq_some_iff.mp h
      have m := List.mem_of_find?_eq_some hk
      have p := List.find?_some hk
      rw [Bool.and_eq_true, decide_eq_true_eq, Bool.not_eq_true', decide_eq_false_iff_not] at p
      exact ⟨k, List.mem_range.mp m, p.1, p.2, e⟩
    · rw [List.getElem?_eq_none (by rw [List.length_range]; omega)] at h
      cases h
  refine ⟨by unfold prOf; simp, fun j hj => ?_, fun i i' j h1 h2 => ?_⟩
  · obtain ⟨g, hg⟩ := List.getElem?_of_mem hj
    obtain ⟨k, k1, k2, k3, k4⟩ := key g j hg
    rw [← k4]
    exact at_lt (by omega)
  · obtain ⟨k, k1, k2, k3, k4⟩ := key i j h1
    obtain ⟨l, l1, l2, l3, l4⟩ := key i' j h2
    rw [← k2, ← l2]
    exact (h k l k1 l1 k3 l3).mpr (by rw [k4, l4])
theorem prOf_mvd {a b T : List Nat} (h : Eno a b T) : ∀ k, k ∈ mvd a b (prOf a b T) → k ∈ T := fun k hk => Classical.byContradiction fun hT => by
  obtain ⟨h1, h2⟩ := List.mem_filter.mp hk
  have h1 := List.mem_range.mp h1
  rw [Bool.not_eq_true', decide_eq_false_iff_not] at h2
  refine h2 ?_
  have hg := at_lt h1
  unfold prOf
  have e : ((List.range (ng a)).map fun g => (((List.range a.length).find? fun k => decide (a.getD k 0 = g) && !decide (k ∈ T)).map fun k => b.getD k 0)).getD (a.getD k 0) none = (((List.range a.length).find? fun l => decide (a.getD l 0 = a.getD k 0) && !decide (l ∈ T)).map fun k => b.getD k 0) := by
    generalize a.getD k 0 = x at hg
    simp [List.getD_eq_getElem?_getD, hg]
  rw [e]
  cases e2 : (List.range a.length).find? fun l => decide (a.getD l 0 = a.getD k 0) && !decide (l ∈ T) with
  | none =>
    have := List.find?_eq_none.mp e2 k (List.mem_range.mpr h1)
    simp [hT] at this
  | some l =>
    have m := List.mem_range.mp (List.mem_of_find?_eq_some e2)
    have p := List.find?_some e2
    rw [Bool.and_eq_true, decide_eq_true_eq, Bool.not_eq_true', decide_eq_false_iff_not] at p
    show some (b.getD l 0) = some (b.getD k 0)
    rw [(h l k m h1 p.2 hT).mp p.1]
theorem mvd_nodup (a b : List Nat) (w : List (Option Nat)) : (mvd a b w).Nodup := List.Pairwise.filter _ List.nodup_range
theorem mvs_ex (a b : List Nat) : ∃ w, Prg (ng a) (ng b) w ∧ (mvd a b w).length = mvs a b := by
  have := (mnL_spec (xs := (prgs (ng a) (ng b)).map fun w => (mvd a b w).length) (by simp [prgs_ne])).1
  obtain ⟨w, hw, e⟩ := List.mem_map.mp this
  exact ⟨w, mem_prgs.mp hw, e⟩
theorem mvs_eno (a b : List Nat) : ∃ T, Eno a b T ∧ T.Nodup ∧ (∀ k, k ∈ T → k < a.length) ∧ T.length = mvs a b := by
  obtain ⟨w, hw, e⟩ := mvs_ex a b
  exact ⟨_, eno_mvd hw, mvd_nodup a b w, fun k hk => List.mem_range.mp (List.mem_filter.mp hk).1, e⟩
theorem mvs_le_w {a b : List Nat} {w : List (Option Nat)} (hw : Prg (ng a) (ng b) w) : mvs a b ≤ (mvd a b w).length :=
  (mnL_spec (xs := (prgs (ng a) (ng b)).map fun w => (mvd a b w).length) (by simp [prgs_ne])).2 _ (List.mem_map.mpr ⟨w, mem_prgs.mpr hw, rfl⟩)
theorem mvs_le {a b T : List Nat} (hl : b.length = a.length) (h : Eno a b T) : mvs a b ≤ T.length :=
  Nat.le_trans (mvs_le_w (prOf_prg hl h)) (nodup_sub (mvd_nodup _ _ _) (prOf_mvd h))
theorem Eno.symm {a b T : List Nat} (hl : b.length = a.length) (h : Eno a b T) : Eno b a T := fun i j hi hj h1 h2 => (h i j (by omega) (by omega) h1 h2).symm
theorem mvs_comm {a b : List Nat} (hl : b.length = a.length) : mvs a b = mvs b a := by
  obtain ⟨T, h1, _, _, e1⟩ := mvs_eno a b
  obtain ⟨U, h2, _, _, e2⟩ := mvs_eno b a
  have := mvs_le hl.symm (h1.symm hl)
  have := mvs_le hl (h2.symm hl.symm)
  omega
theorem mvs_tri {a b c : List Nat} (hl : b.length = a.length) (hc : c.length = a.length) : mvs a b ≤ mvs a c + mvs c b := by
  obtain ⟨T, h1, _, _, e1⟩ := mvs_eno a c
  obtain ⟨U, h2, _, _, e2⟩ := mvs_eno c b
  have : Eno a b (T ++ U) := fun i j hi hj k1 k2 => by
    rw [List.mem_append, not_or] at k1 k2
    exact (h1 i j hi hj k1.1 k2.1).trans (h2 i j (by omega) (by omega) k1.2 k2.2)
  have := mvs_le hl this
  rw [List.length_append] at this
  omega
theorem mvs_zero {a b : List Nat} (ha : chk 0 a = true) (hb : chk 0 b = true) (hl : b.length = a.length) : mvs a b = 0 ↔ a = b := by
  constructor
  · intro e
    obtain ⟨T, h1, _, _, e1⟩ := mvs_eno a b
    have hT : T = [] := List.length_eq_zero_iff.mp (by omega)
    subst hT
    refine fnr_antisymm ha hb hl (fnr_iff.mpr fun i j hi hj e => (h1 i j hi hj (by simp) (by simp)).mp e) (fnr_iff.mpr fun i j hi hj e => (h1 i j (by omega) (by omega) (by simp) (by simp)).mpr e)
  · rintro rfl
    have := mvs_le (a := a) (b := a) (T := []) rfl fun _ _ _ _ _ _ => Iff.rfl
    simpa using this
theorem mvs_dst {a b : List Nat} (hl : b.length = a.length) : mvs a b ≤ dst a b := by
  have : Eno a b ((apart a b).map Prod.fst) := fun i j hi hj h1 h2 => by
    have key : ∀ i j, i < j → j < a.length → i ∉ (apart a b).map Prod.fst → (a.getD i 0 = a.getD j 0 ↔ b.getD i 0 = b.getD j 0) := fun i j hij hj h => by
      have : (i, j) ∉ apart a b := fun z => h (List.mem_map.mpr ⟨_, z, rfl⟩)
      have e : same a (i, j) = same b (i, j) := Classical.byContradiction fun z => this (List.mem_filter.mpr ⟨mem_prs.mpr ⟨hij, hj⟩, by simpa using z⟩)
      unfold same at e
      exact decide_eq_decide.mp e
    rcases Nat.lt_trichotomy i j with q | q | q
    · exact key i j q hj h1
    · subst q; simp
    · have := key j i q hi h2
      exact ⟨fun e => (this.mp e.symm).symm, fun e => (this.mpr e.symm).symm⟩
  have := mvs_le hl this
  rw [List.length_map] at this
  exact this
/-- each thing of T alone -/
def alone (a T : List Nat) : List Nat := numb ((List.range a.length).map fun k => if k ∈ T then ng a + k else a.getD k 0)
theorem alone_len (a T : List Nat) : (alone a T).length = a.length := by unfold alone; rw [numb_length, List.length_map, List.length_range]
theorem alone_chk (a T : List Nat) : chk 0 (alone a T) = true := (numb_chk _).1
theorem range_map_get {n k : Nat} (f : Nat → Nat) (h : k < n) : ((List.range n).map f).getD k 0 = f k := by simp [List.getD_eq_getElem?_getD, h]
theorem alone_together {a T : List Nat} {i j : Nat} (hi : i < a.length) (hj : j < a.length) : (alone a T).getD i 0 = (alone a T).getD j 0 ↔ i = j ∨ (i ∉ T ∧ j ∉ T ∧ a.getD i 0 = a.getD j 0) := by
  unfold alone
  rw [numb_getD (by simpa using hi) (by simpa using hj), range_map_get _ hi, range_map_get _ hj]
  have h1 := at_lt hi
  have h2 := at_lt hj
  by_cases q1 : i ∈ T <;> by_cases q2 : j ∈ T <;> simp only [q1, q2, if_true, if_false, not_true, not_false_iff, false_and, true_and, or_false]
  · omega
  · constructor
    · intro e; omega
    · intro e; rw [e] at q1; exact absurd q1 q2
  · constructor
    · intro e; omega
    · intro e; rw [e] at q1; exact absurd q2 q1
  · constructor
    · exact .inr
    · rintro (rfl | e)
      · rfl
      · exact e
theorem alone_fnr (a T : List Nat) : fnr (alone a T) a = true := fnr_iff.mpr fun i j hi hj e => by
  rw [alone_len] at hi hj
  rcases (alone_together hi hj).mp e with rfl | h
  · rfl
  · exact h.2.2
theorem alone_ng {a T : List Nat} : ng (alone a T) ≤ ng a + T.length := by
  unfold alone
  rw [(numb_chk _).2]
  have : ∀ x, x ∈ dd ((List.range a.length).map fun k => if k ∈ T then ng a + k else a.getD k 0) → x ∈ List.range (ng a) ++ T.map fun k => ng a + k := fun x hx => by
    rw [mem_dd] at hx
    obtain ⟨k, hk, rfl⟩ := List.mem_map.mp hx
    by_cases q : k ∈ T
    · rw [if_pos q]
      exact List.mem_append_right _ (List.mem_map.mpr ⟨k, q, rfl⟩)
    · rw [if_neg q]
      exact List.mem_append_left _ (List.mem_range.mpr (at_lt (List.mem_range.mp hk)))
  have := nodup_sub (dd_nodup _) this
  rw [List.length_append, List.length_range, List.length_map] at this
  exact this
theorem alone_stp {a T : List Nat} (ha : chk 0 a = true) : stps a (alone a T) ≤ T.length ∧ stps (alone a T) a ≤ T.length := by
  have e1 := jn_of_fnr ha (alone_len a T).symm (alone_fnr a T)
  have e2 : jn a (alone a T) = a := by rw [jn_comm (alone_len a T)]; exact e1
  have := alone_ng (a := a) (T := T)
  unfold stps
  rw [e1, e2]
  omega
theorem stps_mvs {a b : List Nat} (ha : chk 0 a = true) (hb : chk 0 b = true) (hl : b.length = a.length) : stps a b ≤ 2 * mvs a b := by
  obtain ⟨T, h1, _, _, e1⟩ := mvs_eno a b
  have e : alone a T = alone b T := by
    refine fnr_antisymm (alone_chk _ _) (alone_chk _ _) (by rw [alone_len, alone_len, hl]) (fnr_iff.mpr fun i j hi hj e => ?_) (fnr_iff.mpr fun i j hi hj e => ?_)
    · rw [alone_len] at hi hj
      refine (alone_together (by omega) (by omega)).mpr (((alone_together hi hj).mp e).imp id fun h => ⟨h.1, h.2.1, (h1 i j hi hj h.1 h.2.1).mp h.2.2⟩)
    · rw [alone_len] at hi hj
      refine (alone_together (by omega) (by omega)).mpr (((alone_together hi hj).mp e).imp id fun h => ⟨h.1, h.2.1, (h1 i j (by omega) (by omega) h.1 h.2.1).mpr h.2.2⟩)
  have s1 := (alone_stp (T := T) ha).1
  have s2 := (alone_stp (T := T) hb).2
  rw [← e] at s2
  have := stp_tri ha hb (alone_chk a T) hl (alone_len a T)
  omega



/-- one step up is a joining -/
theorem jngs_of {x y : List Nat} (hx : chk 0 x = true) (hy : chk 0 y = true) (hl : y.length = x.length) (h : fnr x y = true) (hn : ng x = ng y + 1) : y ∈ jngs x := by
  obtain ⟨r, hr⟩ := up_ex hx hy hl h (fun z => by rw [z] at hn; omega)
  obtain ⟨m1, m2⟩ := List.mem_filter.mp hr
  obtain ⟨f1, f2, f3, f4⟩ := jngs_step hx m1
  have f5 : fnr r y = true := (mt_eq_iff f3 (by omega)).mp (of_decide_eq_true m2)
  have : r = y := eq_of_ng f3 hy (by omega) f5 (by omega)
  rw [← this]
  exact m1
theorem mem_jngs_iff {x y : List Nat} (hx : chk 0 x = true) : y ∈ jngs x ↔ chk 0 y = true ∧ y.length = x.length ∧ fnr x y = true ∧ ng x = ng y + 1 := by
  constructor
  · intro h
    obtain ⟨f1, f2, f3, f4⟩ := jngs_step hx h
    exact ⟨f3, f4, f1, f2.symm⟩
  · rintro ⟨h1, h2, h3, h4⟩
    exact jngs_of hx h1 h2 h3 h4
/-- all choices from a list -/
def subs (xs : List Nat) : List (List Nat) := xs.foldl (fun ways x => ways ++ ways.map (· ++ [x])) [[]]
theorem subs_snoc (xs : List Nat) (x : Nat) : subs (xs ++ [x]) = subs xs ++ (subs xs).map (· ++ [x]) := by
  unfold subs
  rw [List.foldl_append]
  rfl
theorem subs_len : ∀ xs : List Nat, (subs xs).length = 2 ^ xs.length := by
  refine snoc_ind rfl fun xs x ih => ?_
  rw [subs_snoc, List.length_append, List.length_map, ih, List.length_append, List.length_singleton, Nat.pow_succ]
  omega
theorem subs_head : ∀ xs : List Nat, ∃ r, subs xs = [] :: r ∧ ∀ w, w ∈ r → w ≠ [] := by
  refine snoc_ind ⟨[], rfl, fun _ h => nomatch h⟩ fun xs x ih => ?_
  obtain ⟨r, h1, h2⟩ := ih
  refine ⟨r ++ (([] : List Nat) :: r).map (· ++ [x]), by rw [subs_snoc, h1]; rfl, fun w hw => ?_⟩
  rcases List.mem_append.mp hw with h | h
  · exact h2 w h
  · obtain ⟨v, _, rfl⟩ := List.mem_map.mp h
    simp
theorem subs_sub : ∀ xs : List Nat, ∀ w, w ∈ subs xs → ∀ k, k ∈ w → k ∈ xs := by
  refine snoc_ind (fun w hw k hk => ?_) fun xs x ih w hw k hk => ?_
  · rw [List.mem_singleton.mp hw] at hk
    cases hk
  · rw [subs_snoc] at hw
    rcases List.mem_append.mp hw with h | h
    · exact List.mem_append_left _ (ih w h k hk)
    · obtain ⟨v, hv, rfl⟩ := List.mem_map.mp h
      rcases List.mem_append.mp hk with h | h
      · exact List.mem_append_left _ (ih v hv k h)
      · exact List.mem_append_right _ h
theorem subs_filter (p : Nat → Bool) : ∀ xs : List Nat, xs.filter p ∈ subs xs := by
  refine snoc_ind List.mem_cons_self fun xs x ih => ?_
  rw [subs_snoc, List.filter_append]
  by_cases q : p x = true
  · refine List.mem_append_right _ (List.mem_map.mpr ⟨_, ih, ?_⟩)
    simp [q]
  · refine List.mem_append_left _ ?_
    simp [q]
    exact ih
/-- divided: some things of a group put apart -/
def dv (a w : List Nat) : List Nat := numb ((List.range a.length).map fun k => if k ∈ w then a.length else a.getD k 0)
def draw (a : List Nat) : List (List Nat) := (grps a).flatMap fun g => ((subs (g.drop 1)).drop 1).map (dv a)
def divs (a : List Nat) : List (List Nat) := sortN (draw a)
theorem dv_len (a w : List Nat) : (dv a w).length = a.length := by unfold dv; rw [numb_length, List.length_map, List.length_range]
theorem rng_get {n k : Nat} (f : Nat → Nat) (h : k < n) : ((List.range n).map f).getD k 0 = f k := by simp [List.getD_eq_getElem?_getD, h]
theorem dv_together {a w : List Nat} {i j : Nat} (hi : i < a.length) (hj : j < a.length) : (dv a w).getD i 0 = (dv a w).getD j 0 ↔ (if i ∈ w then a.length else a.getD i 0) = if j ∈ w then a.length else a.getD j 0 := by
  unfold dv
  rw [numb_getD (by simpa using hi) (by simpa using hj), rng_get _ hi, rng_get _ hj]
/-- a group's things in order -/
def gof (a : List Nat) (g : Nat) : List Nat := (List.range a.length).filter fun k => decide (a.getD k 0 = g)
theorem mem_gof {a : List Nat} {g k : Nat} : k ∈ gof a g ↔ k < a.length ∧ a.getD k 0 = g := by
  unfold gof
  rw [List.mem_filter, List.mem_range, decide_eq_true_eq]
theorem gof_sorted (a : List Nat) (g : Nat) : (gof a g).Pairwise (· < ·) := List.Pairwise.filter _ List.pairwise_lt_range
theorem mem_draw {a r : List Nat} : r ∈ draw a ↔ ∃ g w, g < ng a ∧ w ∈ (subs ((gof a g).drop 1)).drop 1 ∧ r = dv a w := by
  unfold draw
  rw [List.mem_flatMap]
  constructor
  · rintro ⟨l, hl, hr⟩
    obtain ⟨g, hg, rfl⟩ := List.mem_map.mp hl
    obtain ⟨w, hw, rfl⟩ := List.mem_map.mp hr
    exact ⟨g, w, List.mem_range.mp hg, hw, rfl⟩
  · rintro ⟨g, w, hg, hw, rfl⟩
    exact ⟨_, List.mem_map.mpr ⟨g, List.mem_range.mpr hg, rfl⟩, List.mem_map.mpr ⟨w, hw, rfl⟩⟩
theorem mem_divs {a r : List Nat} : r ∈ divs a ↔ ∃ g w, g < ng a ∧ w ∈ (subs ((gof a g).drop 1)).drop 1 ∧ r = dv a w := by
  unfold divs
  rw [(sortN_perm _).mem_iff, mem_draw]
theorem chk_ng_le {a : List Nat} (h : chk 0 a = true) : ng a ≤ a.length := by
  have := chk_ng a 0 h
  unfold ng
  omega
theorem divs_step {a r : List Nat} (ha : chk 0 a = true) (h : r ∈ divs a) : chk 0 r = true ∧ r.length = a.length ∧ fnr r a = true ∧ ng r = ng a + 1 := by
  obtain ⟨g, w, hg, hw, rfl⟩ := mem_divs.mp h
  have hn := chk_ng_le ha
  obtain ⟨rest, e1, e2⟩ := subs_head ((gof a g).drop 1)
  have hw' := hw
  rw [e1] at hw
  have hwne := e2 w hw
  have hsub := subs_sub _ w (by rw [e1]; exact List.mem_cons_of_mem _ hw)
  have hin : ∀ k, k ∈ w → k < a.length ∧ a.getD k 0 = g := fun k hk => mem_gof.mp (List.mem_of_mem_drop (hsub k hk))
  have hf : fnr (dv a w) a = true := fnr_iff.mpr fun i j hi hj e => by
    rw [dv_len] at hi hj
    rw [dv_together hi hj] at e
    have l1 := at_lt hi
    have l2 := at_lt hj
    by_cases q1 : i ∈ w <;> by_cases q2 : j ∈ w
    · rw [(hin i q1).2, (hin j q2).2]
    · rw [if_pos q1, if_neg q2] at e; omega
    · rw [if_neg q1, if_pos q2] at e; omega
    · rw [if_neg q1, if_neg q2] at e; exact e
  have hchk : chk 0 (dv a w) = true := (numb_chk _).1
  refine ⟨hchk, dv_len a w, hf, ?_⟩
  have up : ng (dv a w) ≤ ng a + 1 := by
    unfold dv
    rw [(numb_chk _).2]
    have : ∀ x, x ∈ dd ((List.range a.length).map fun k => if k ∈ w then a.length else a.getD k 0) → x ∈ List.range (ng a) ++ [a.length] := fun x hx => by
      rw [mem_dd] at hx
      obtain ⟨k, hk, rfl⟩ := List.mem_map.mp hx
      by_cases q : k ∈ w
      · rw [if_pos q]; simp
      · rw [if_neg q]
        exact List.mem_append_left _ (List.mem_range.mpr (at_lt (List.mem_range.mp hk)))
    have := nodup_sub (dd_nodup _) this
    rw [List.length_append, List.length_range, List.length_singleton] at this
    exact this
  obtain ⟨j, hj⟩ := List.exists_mem_of_ne_nil w hwne
  have hjt := hsub j hj
  have hs := gof_sorted a g
  cases eg : gof a g with
  | nil => rw [eg] at hjt; cases hjt
  | cons i t =>
    rw [eg] at hjt hs
    have hi := mem_gof.mp (show i ∈ gof a g by rw [eg]; exact List.mem_cons_self)
    have hiw : i ∉ w := fun z => by
      have := hsub i z
      rw [eg] at this
      have := (List.pairwise_cons.mp hs).1 i this
      omega
    obtain ⟨hj1, hj2⟩ := hin j hj
    have := ng_strict hchk ha (dv_len a w).symm hf (i := i) (j := j) (by rw [dv_len]; exact hi.1) (by rw [dv_len]; exact hj1) (by rw [hi.2, hj2]) (fun z => by
      rw [dv_together hi.1 hj1, if_neg hiw, if_pos hj] at z
      have := at_lt hi.1
      omega)
    omega
/-- in a grouping the first thing of a lower group comes first -/
theorem chk_first {x : List Nat} (h : chk 0 x = true) {j : Nat} (hj : j < x.length) {g : Nat} (hg : g < x.getD j 0) : ∃ i, i < j ∧ x.getD i 0 = g := by
  have hx : x = x.take j ++ x.drop j := (List.take_append_drop j x).symm
  have hd : x.drop j = x[j] :: x.drop (j + 1) := List.drop_eq_getElem_cons hj
  have h' := h
  rw [hx, chk_append, Bool.and_eq_true, hd] at h'
  have e : x.getD j 0 = x[j] := by rw [List.getD_eq_getElem?_getD, List.getElem?_eq_getElem hj]; rfl
  have hle : x[j] ≤ ng (x.take j) := by
    have := h'.2
    unfold chk at this
    unfold ng
    by_cases q : x[j] ≤ (x.take j).foldl (fun m x => max m (x + 1)) 0
    · exact q
    · simp [q] at this
  have := chk_onto h'.1 (g := g) (by omega)
  obtain ⟨i, hi⟩ := List.getElem?_of_mem this
  have lt := (List.getElem?_eq_some_iff.mp hi).1
  rw [List.length_take] at lt
  refine ⟨i, by omega, ?_⟩
  rw [List.getElem?_take] at hi
  rw [if_pos (by omega)] at hi
  rw [List.getD_eq_getElem?_getD, hi]
  rfl
theorem divs_of {x y : List Nat} (hx : chk 0 x = true) (hy : chk 0 y = true) (hl : y.length = x.length) (h : fnr x y = true) (hn : ng x = ng y + 1) : x ∈ divs y := by
  obtain ⟨low, high, l1, l2, e⟩ := mem_jngs.mp (jngs_of hx hy hl h hn)
  obtain ⟨j, hj, ej⟩ := ex_at hx l2
  obtain ⟨i, hi, ei⟩ := chk_first hx hj (g := low) (by omega)
  have tog : ∀ p q, p < x.length → q < x.length → (y.getD p 0 = y.getD q 0 ↔ (if x.getD p 0 = high then low else x.getD p 0) = if x.getD q 0 = high then low else x.getD q 0) := fun p q hp hq => by
    rw [e]
    exact mg_together hp hq
  have hgl : y.getD i 0 < ng y := at_lt (by omega)
  refine mem_divs.mpr ⟨y.getD i 0, ((gof y (y.getD i 0)).drop 1).filter fun k => decide (x.getD k 0 = high), hgl, ?_, ?_⟩
  · obtain ⟨rest, e1, e2⟩ := subs_head ((gof y (y.getD i 0)).drop 1)
    have m := subs_filter (fun k => decide (x.getD k 0 = high)) ((gof y (y.getD i 0)).drop 1)
    rw [e1] at m ⊢
    rcases List.mem_cons.mp m with z | z
    · have hjm : j ∈ gof y (y.getD i 0) := mem_gof.mpr ⟨by omega, (tog j i hj (by omega)).mpr (by rw [ej, ei, if_pos rfl, if_neg (by omega)])⟩
      have him : i ∈ gof y (y.getD i 0) := mem_gof.mpr ⟨by omega, rfl⟩
      have hs := gof_sorted y (y.getD i 0)
      cases eg : gof y (y.getD i 0) with
      | nil => rw [eg] at hjm; cases hjm
      | cons f t =>
        rw [eg] at hjm him hs z
        have : j ∈ t := by
          rcases List.mem_cons.mp hjm with rfl | q
          · rcases List.mem_cons.mp him with rfl | q
            · omega
            · have := (List.pairwise_cons.mp hs).1 i q
              omega
          · exact q
        have := List.filter_eq_nil_iff.mp z j this
        rw [decide_eq_true_eq] at this
        exact absurd ej this
    · exact z
  · have hw : ∀ k, k < x.length → (k ∈ ((gof y (y.getD i 0)).drop 1).filter (fun k => decide (x.getD k 0 = high)) ↔ x.getD k 0 = high) := fun k hk => by
      rw [List.mem_filter, decide_eq_true_eq]
      refine ⟨fun h => h.2, fun hh => ⟨?_, hh⟩⟩
      have hkm : k ∈ gof y (y.getD i 0) := mem_gof.mpr ⟨by omega, (tog k i hk (by omega)).mpr (by rw [hh, ei, if_pos rfl, if_neg (by omega)])⟩
      obtain ⟨i2, hi2, ei2⟩ := chk_first hx hk (g := low) (by omega)
      have him : i2 ∈ gof y (y.getD i 0) := mem_gof.mpr ⟨by omega, (tog i2 i (by omega) (by omega)).mpr (by rw [ei2, ei])⟩
      have hs := gof_sorted y (y.getD i 0)
      cases eg : gof y (y.getD i 0) with
      | nil => rw [eg] at hkm; cases hkm
      | cons f t =>
        rw [eg] at hkm him hs
        rcases List.mem_cons.mp hkm with rfl | q
        · rcases List.mem_cons.mp him with rfl | q
          · omega
          · have := (List.pairwise_cons.mp hs).1 i2 q
            omega
        · exact q
    generalize ((gof y (y.getD i 0)).drop 1).filter (fun k => decide (x.getD k 0 = high)) = w at hw
    have hyl := chk_ng_le hy
    refine fnr_antisymm hx (numb_chk _).1 (by rw [dv_len, hl]) (fnr_iff.mpr fun p q hp hq z => ?_) (fnr_iff.mpr fun p q hp hq z => ?_)
    · refine (dv_together (by omega) (by omega)).mpr ?_
      have zz := fnr_iff.mp h p q hp hq z
      by_cases q1 : x.getD p 0 = high
      · rw [if_pos ((hw p hp).mpr q1), if_pos ((hw q hq).mpr (by rw [← z]; exact q1))]
      · rw [if_neg (fun k => q1 ((hw p hp).mp k)), if_neg (fun k => q1 (by rw [z]; exact (hw q hq).mp k)), zz]
    · rw [dv_len, hl] at hp hq
      rw [dv_together (by omega) (by omega)] at z
      have b1 := at_lt (a := y) (k := p) (by omega)
      have b2 := at_lt (a := y) (k := q) (by omega)
      by_cases q1 : x.getD p 0 = high <;> by_cases q2 : x.getD q 0 = high
      · rw [q1, q2]
      · rw [if_pos ((hw p hp).mpr q1), if_neg (fun k => q2 ((hw q hq).mp k))] at z; omega
      · rw [if_neg (fun k => q1 ((hw p hp).mp k)), if_pos ((hw q hq).mpr q2)] at z; omega
      · rw [if_neg (fun k => q1 ((hw p hp).mp k)), if_neg (fun k => q2 ((hw q hq).mp k))] at z
        have := (tog p q hp hq).mp z
        rw [if_neg q1, if_neg q2] at this
        exact this
theorem draw_len (a : List Nat) : (draw a).length = ((grps a).map fun g => 2 ^ (g.length - 1) - 1).sum := by
  unfold draw
  rw [List.length_flatMap]
  congr 1
  refine List.map_congr_left fun g _ => ?_
  rw [List.length_map, List.length_drop, subs_len, List.length_drop]
theorem divs_len (a : List Nat) : (divs a).length = ((grps a).map fun g => 2 ^ (g.length - 1) - 1).sum := by
  unfold divs
  rw [(sortN_perm _).length_eq, draw_len]
theorem fold_preQ {α β σ : Type} (e : α → D) (dec : D → Option β) (k : α → β) (f : σ → β → R σ) (S : List α → σ) (N : Nat) (Q : α → Prop) : ∀ (xs pre : List α), pre.length + xs.length ≤ N → (∀ x, x ∈ pre → Q x) → (∀ x, x ∈ xs → Q x) → (∀ x, x ∈ xs → dec (e x) = some (k x)) → (∀ pre x, pre.length < N → (∀ y, y ∈ pre → Q y) → x ∈ xs → f (S pre) (k x) = .ok (S (pre ++ [x]))) → R.fold dec f (xs.map e) (S pre) = .ok (S (pre ++ xs))
  | [], pre, _, _, _, _, _ => by rw [List.append_nil]; rfl
  | x :: xs, pre, hN, hp, hx, hd, hf => by
    rw [List.length_cons] at hN
    simp only [List.map_cons, R.fold, hd x List.mem_cons_self, ofO_some, bind_ok, hf pre x (by omega) hp List.mem_cons_self]
    have := fold_preQ e dec k f S N Q xs (pre ++ [x]) (by rw [List.length_append, List.length_singleton]; omega) (fun y hy => by
      rcases List.mem_append.mp hy with h | h
      · exact hp y h
      · rw [List.mem_singleton.mp h]; exact hx x List.mem_cons_self) (fun y hy => hx y (List.mem_cons_of_mem _ hy)) (fun y hy => hd y (List.mem_cons_of_mem _ hy)) (fun pre y h1 h2 h3 => hf pre y h1 h2 (List.mem_cons_of_mem _ h3))
    rw [List.append_assoc] at this
    exact this
theorem subs_le : ∀ xs : List Nat, ∀ w, w ∈ subs xs → w.length ≤ xs.length := by
  refine snoc_ind (fun w hw => ?_) fun xs x ih w hw => ?_
  · rw [List.mem_singleton.mp hw]; simp
  · rw [subs_snoc] at hw
    rw [List.length_append, List.length_singleton]
    rcases List.mem_append.mp hw with h | h
    · have := ih w h; omega
    · obtain ⟨v, hv, rfl⟩ := List.mem_map.mp h
      have := ih v hv
      rw [List.length_append, List.length_singleton]
      omega
theorem subs_fold {g : List Nat} (h : g.length ≤ 7) : R.fold some (fun (p11 : List D) (a18 : D) => ((((R.ofO (dList (.list p11))).bind fun ds26 => R.comp some (fun _ => R.ok true) (fun a20 => R.ofO (dAdd a20 (.list (a18 :: [])))) ds26).bind fun ds27 => R.ok (PyData.list ds27 : D)).bind fun x29 => R.ofO (dExt (p11) x29)).bind fun v_ways28 => R.ok v_ways28) (g.map nI) ((.list []) :: []) = .ok ((subs g).map nL) := by
  refine (fold_pre (α := Nat) nI some nI _ (fun pre : List Nat => (subs pre).map nL) 7 g [] (by simpa using h) (fun _ _ => rfl) fun pre x hp _ => ?_).trans ?_
  · have hs := subs_len pre
    have : 2 ^ pre.length ≤ 2 ^ 7 := Nat.pow_le_pow_right (by decide) (by omega)
    simp only [dList_list, ofO_some, bind_ok]
    rw [comp_map (subs pre) nL some nL _ (fun w => nL (w ++ [x])) (fun _ _ => rfl) fun w hw => by
      rw [dAdd_row w x (by have := subs_le pre w hw; unfold LIM; omega), ofO_some]]
    simp only [bind_ok]
    have ex : dExt ((subs pre).map nL) (.list ((subs pre).map fun w => nL (w ++ [x]))) = some ((subs (pre ++ [x])).map nL) := by
      show (if _ + _ ≤ LIM then some _ else none) = _
      rw [if_pos (by rw [List.length_map, List.length_map]; unfold LIM; omega), subs_snoc, List.map_append, List.map_map]
      rfl
    rw [ex]
    rfl
  · rfl


/-! the greatest whole, by rows -/
def zc (k : Nat) (row : List Nat) : List Nat := row.take k ++ [0] ++ row.drop (k + 1)
def shsN : Nat → List (List Nat) → Nat
  | 0, _ => 0
  | _ + 1, [] => 0
  | n + 1, r :: rs => (List.range r.length).foldl (fun best k => if 0 < r.getD k 0 then max best (r.getD k 0 + shsN n (rs.map (zc k))) else best) (shsN n rs)
theorem foldl_best (p : Nat → Prop) [DecidablePred p] (v : Nat → Nat) : ∀ (xs : List Nat) (b : Nat), b ≤ xs.foldl (fun best k => if p k then max best (v k) else best) b ∧ (∀ k, k ∈ xs → p k → v k ≤ xs.foldl (fun best k => if p k then max best (v k) else best) b) ∧ (xs.foldl (fun best k => if p k then max best (v k) else best) b = b ∨ ∃ k, k ∈ xs ∧ p k ∧ xs.foldl (fun best k => if p k then max best (v k) else best) b = v k)
  | [], b => ⟨Nat.le_refl _, fun _ h => (nomatch h), .inl rfl⟩
  | x :: xs, b => by
    rw [List.foldl_cons]
    obtain ⟨h1, h2, h3⟩ := foldl_best p v xs (if p x then max b (v x) else b)
    by_cases q : p x
    · rw [if_pos q] at h1 h2 h3 ⊢
      refine ⟨by omega, fun k hk hp => ?_, ?_⟩
      · rcases List.mem_cons.mp hk with rfl | hk
        · omega
        · exact h2 k hk hp
      · rcases h3 with h3 | ⟨k, k1, k2, k3⟩
        · rcases Nat.le_total b (v x) with l | l
          · exact .inr ⟨x, List.mem_cons_self, q, by omega⟩
          · exact .inl (by omega)
        · exact .inr ⟨k, List.mem_cons_of_mem _ k1, k2, k3⟩
    · rw [if_neg q] at h1 h2 h3 ⊢
      refine ⟨h1, fun k hk hp => ?_, ?_⟩
      · rcases List.mem_cons.mp hk with rfl | hk
        · exact absurd hp q
        · exact h2 k hk hp
      · rcases h3 with h3 | ⟨k, k1, k2, k3⟩
        · exact .inl h3
        · exact .inr ⟨k, List.mem_cons_of_mem _ k1, k2, k3⟩
theorem zc_len {k : Nat} {row : List Nat} (h : k < row.length) : (zc k row).length = row.length := by
  unfold zc
  rw [List.length_append, List.length_append, List.length_take, List.length_singleton, List.length_drop]
  omega
theorem zc_get {k : Nat} {row : List Nat} (h : k < row.length) (j : Nat) : (zc k row).getD j 0 = if j = k then 0 else row.getD j 0 := by
  unfold zc
  simp only [List.getD_eq_getElem?_getD, List.append_assoc]
  have tl : (row.take k).length = k := by rw [List.length_take]; omega
  by_cases q : j < k
  · rw [List.getElem?_append_left (by omega), List.getElem?_take, if_pos q, if_neg (by omega)]
  · rw [List.getElem?_append_right (by omega), tl]
    by_cases e : j = k
    · subst e
      rw [if_pos rfl, Nat.sub_self]
      rfl
    · rw [if_neg e, show j - k = (j - k - 1) + 1 by omega, List.singleton_append, List.getElem?_cons_succ, List.getElem?_drop, show k + 1 + (j - k - 1) = j by omega]
theorem whole_none (r : List Nat) (rs : List (List Nat)) (w : List (Option Nat)) : whole (r :: rs) (none :: w) = whole rs w := by
  unfold whole
  rw [List.zip_cons_cons, List.filter_cons, if_neg (by simp)]
theorem whole_some (r : List Nat) (rs : List (List Nat)) (w : List (Option Nat)) (j : Nat) : whole (r :: rs) (some j :: w) = r.getD j 0 + whole rs w := by
  unfold whole
  rw [List.zip_cons_cons, List.filter_cons, if_pos (by simp), List.map_cons, List.sum_cons]
  rfl
theorem whole_nil (w : List (Option Nat)) : whole [] w = 0 := rfl
theorem Prg.tail {r c : Nat} {x : Option Nat} {w : List (Option Nat)} (h : Prg (r + 1) c (x :: w)) : Prg r c w ∧ ∀ j, x = some j → j < c ∧ some j ∉ w := by
  obtain ⟨h1, h2, h3⟩ := h
  refine ⟨⟨by simpa using h1, fun j hj => h2 j (List.mem_cons_of_mem _ hj), fun i i' j a b => ?_⟩, fun j e => ⟨h2 j (by rw [e]; exact List.mem_cons_self), fun hj => ?_⟩⟩
  · have := h3 (i + 1) (i' + 1) j (by simpa using a) (by simpa using b)
    omega
  · obtain ⟨i, hi⟩ := List.getElem?_of_mem hj
    have := h3 0 (i + 1) j (by simp [e]) (by simpa using hi)
    omega
theorem Prg.cons {r c : Nat} {x : Option Nat} {w : List (Option Nat)} (h : Prg r c w) (hx : ∀ j, x = some j → j < c ∧ some j ∉ w) : Prg (r + 1) c (x :: w) := by
  obtain ⟨h1, h2, h3⟩ := h
  refine ⟨by simp [h1], fun j hj => ?_, fun i i' j a b => ?_⟩
  · rcases List.mem_cons.mp hj with e | e
    · exact (hx j e.symm).1
    · exact h2 j e
  · match i, i', a, b with
    | 0, 0, _, _ => rfl
    | 0, i' + 1, a, b =>
      simp at a b
      exact absurd (List.mem_of_getElem? b) (hx j a).2
    | i + 1, 0, a, b =>
      simp at a b
      exact absurd (List.mem_of_getElem? a) (hx j b).2
    | i + 1, i' + 1, a, b =>
      simp at a b
      rw [h3 i i' j a b]
theorem whole_zc {k c : Nat} (hk : k < c) : ∀ (rs : List (List Nat)) (w : List (Option Nat)), (∀ r, r ∈ rs → r.length = c) → some k ∉ w → whole (rs.map (zc k)) w = whole rs w
  | [], w, _, _ => rfl
  | r :: rs, [], _, _ => rfl
  | r :: rs, none :: w, h, hn => by
    rw [List.map_cons, whole_none, whole_none]
    exact whole_zc hk rs w (fun x hx => h x (List.mem_cons_of_mem _ hx)) fun z => hn (List.mem_cons_of_mem _ z)
  | r :: rs, some j :: w, h, hn => by
    rw [List.map_cons, whole_some, whole_some, whole_zc hk rs w (fun x hx => h x (List.mem_cons_of_mem _ hx)) fun z => hn (List.mem_cons_of_mem _ z), zc_get (by rw [h r List.mem_cons_self]; exact hk), if_neg (fun z => hn (by rw [z]; exact List.mem_cons_self))]
def clr (k : Nat) (w : List (Option Nat)) : List (Option Nat) := w.map fun o => if o = some k then none else o
theorem whole_clr {k c : Nat} (hk : k < c) : ∀ (rs : List (List Nat)) (w : List (Option Nat)), (∀ r, r ∈ rs → r.length = c) → whole (rs.map (zc k)) (clr k w) = whole (rs.map (zc k)) w
  | [], w, _ => rfl
  | r :: rs, [], _ => rfl
  | r :: rs, none :: w, h => by
    show whole (zc k r :: rs.map (zc k)) ((if (none : Option Nat) = some k then none else none) :: clr k w) = _
    rw [if_neg (by simp), List.map_cons, whole_none, whole_none]
    exact whole_clr hk rs w fun x hx => h x (List.mem_cons_of_mem _ hx)
  | r :: rs, some j :: w, h => by
    have ih := whole_clr hk rs w fun x hx => h x (List.mem_cons_of_mem _ hx)
    show whole (zc k r :: rs.map (zc k)) ((if some j = some k then none else some j) :: clr k w) = _
    rw [List.map_cons, whole_some]
    by_cases e : j = k
    · subst e
      rw [if_pos rfl, whole_none, ih, zc_get (by rw [h r List.mem_cons_self]; exact hk), if_pos rfl, Nat.zero_add]
    · rw [if_neg (by simpa using e), whole_some, ih]
theorem clr_prg {k r c : Nat} {w : List (Option Nat)} (h : Prg r c w) : Prg r c (clr k w) ∧ some k ∉ clr k w := by
  obtain ⟨h1, h2, h3⟩ := h
  have key : ∀ i j, (clr k w)[i]? = some (some j) → w[i]? = some (some j) ∧ j ≠ k := fun i j e => by
    unfold clr at e
    rw [List.getElem?_map] at e
    cases e2 : w[i]? with
    | none => rw [e2] at e; cases e
    | some o =>
      rw [e2] at e
      simp only [Option.map_some, Option.some.injEq] at e
      by_cases q : o = some k
      · rw [if_pos q] at e; cases e
      · rw [if_neg q] at e
        subst e
        exact ⟨rfl, fun z => q (by rw [z])⟩
  refine ⟨⟨by unfold clr; rw [List.length_map, h1], fun j hj => ?_, fun i i' j a b => h3 i i' j (key i j a).1 (key i' j b).1⟩, fun hk => ?_⟩
  · obtain ⟨i, hi⟩ := List.getElem?_of_mem hj
    exact h2 j (List.mem_of_getElem? (key i j hi).1)
  · obtain ⟨i, hi⟩ := List.getElem?_of_mem hk
    exact (key i k hi).2 rfl
theorem shs_le {c : Nat} : ∀ (n : Nat) (rows : List (List Nat)) (w : List (Option Nat)), rows.length < n → (∀ r, r ∈ rows → r.length = c) → Prg rows.length c w → whole rows w ≤ shsN n rows
  | 0, _, _, h, _, _ => by omega
  | n + 1, [], w, _, _, _ => by rw [whole_nil]; exact Nat.zero_le _
  | n + 1, r :: rs, w, hn, hc, hw => by
    rw [List.length_cons] at hn
    have hcs : ∀ x, x ∈ rs → x.length = c := fun x hx => hc x (List.mem_cons_of_mem _ hx)
    obtain ⟨b1, b2, _⟩ := foldl_best (fun k => 0 < r.getD k 0) (fun k => r.getD k 0 + shsN n (rs.map (zc k))) (List.range r.length) (shsN n rs)
    show _ ≤ (List.range r.length).foldl _ (shsN n rs)
    match w, hw with
    | [], hw => have := hw.1; simp at this
    | none :: w, hw =>
      rw [whole_none]
      exact Nat.le_trans (shs_le n rs w (by omega) hcs hw.tail.1) b1
    | some j :: w, hw =>
      obtain ⟨t1, t2⟩ := hw.tail
      obtain ⟨hj, hjw⟩ := t2 j rfl
      rw [whole_some]
      by_cases q : 0 < r.getD j 0
      · have := b2 j (List.mem_range.mpr (by rw [hc r List.mem_cons_self]; exact hj)) q
        have ih := shs_le n (rs.map (zc j)) w (by rw [List.length_map]; omega) (fun x hx => by
          obtain ⟨y, hy, rfl⟩ := List.mem_map.mp hx
          rw [zc_len (by rw [hcs y hy]; exact hj), hcs y hy]) (by rw [List.length_map]; exact t1)
        rw [whole_zc hj rs w hcs hjw] at ih
        exact Nat.le_trans (Nat.add_le_add_left ih _) this
      · have := shs_le n rs w (by omega) hcs t1
        refine Nat.le_trans ?_ b1
        omega
theorem shs_ex {c : Nat} : ∀ (n : Nat) (rows : List (List Nat)), rows.length < n → (∀ r, r ∈ rows → r.length = c) → ∃ w, Prg rows.length c w ∧ whole rows w = shsN n rows
  | 0, _, h, _ => by omega
  | n + 1, [], _, _ => ⟨[], ⟨rfl, fun _ h => (nomatch h), fun _ _ _ h => by simp at h⟩, rfl⟩
  | n + 1, r :: rs, hn, hc => by
    rw [List.length_cons] at hn
    have hcs : ∀ x, x ∈ rs → x.length = c := fun x hx => hc x (List.mem_cons_of_mem _ hx)
    obtain ⟨_, _, b3⟩ := foldl_best (fun k => 0 < r.getD k 0) (fun k => r.getD k 0 + shsN n (rs.map (zc k))) (List.range r.length) (shsN n rs)
    rcases b3 with b3 | ⟨k, k1, k2, k3⟩
    · obtain ⟨w, w1, w2⟩ := shs_ex n rs (by omega) hcs
      refine ⟨none :: w, w1.cons (fun j e => by cases e), ?_⟩
      rw [whole_none, w2]
      exact b3.symm
    · have hk : k < c := by rw [← hc r List.mem_cons_self]; exact List.mem_range.mp k1
      obtain ⟨w, w1, w2⟩ := shs_ex n (rs.map (zc k)) (by rw [List.length_map]; omega) (fun x hx => by
          obtain ⟨y, hy, rfl⟩ := List.mem_map.mp hx
          rw [zc_len (by rw [hcs y hy]; exact hk), hcs y hy])
      rw [List.length_map] at w1
      obtain ⟨c1, c2⟩ := clr_prg (k := k) w1
      refine ⟨some k :: clr k w, c1.cons (fun j e => by cases e; exact ⟨hk, c2⟩), ?_⟩
      rw [whole_some, ← whole_zc hk rs _ hcs c2, whole_clr hk rs w hcs, w2]
      exact k3.symm
theorem shs_mvs (a b : List Nat) {n : Nat} (hn : ng a < n) : shsN n (ctab a b) + mvs a b = a.length := by
  have hcl : (ctab a b).length = ng a := by unfold ctab; simp
  have hrow : ∀ r, r ∈ ctab a b → r.length = ng b := fun r hr => by
    obtain ⟨g, _, rfl⟩ := List.mem_map.mp hr
    simp
  obtain ⟨w, w1, w2⟩ := shs_ex (c := ng b) n (ctab a b) (by omega) hrow
  rw [hcl] at w1
  obtain ⟨v, v1, v2⟩ := mvs_ex a b
  have e1 := mvd_whole w1
  have e2 := mvd_whole v1
  have e3 := mvs_le_w w1
  have e4 := shs_le (c := ng b) n (ctab a b) v (by omega) hrow (by rw [hcl]; exact v1)
  omega
theorem dCut_to (xs : List Nat) (k : Nat) (h : k ≤ xs.length) : dCut none (some (k : Int)) (nL xs) = some (nL (xs.take k)) := by
  show some (PyData.list (cutD (xs.map nI) none (some (k : Int)))) = _
  unfold cutD
  have e2 : HT.sIx (xs.map nI).length 0 none = 0 := rfl
  have e1 : HT.sIx (xs.map nI).length (xs.map nI).length (some (k : Int)) = min k (xs.map nI).length := HT.sIx_nat (k := k) ..
  rw [e1, e2, List.length_map, Nat.min_eq_left h, Nat.sub_zero, List.drop_zero, ← List.map_take]
theorem dCut_from (xs : List Nat) (k : Nat) (h : k ≤ xs.length) : dCut (some (k : Int)) none (nL xs) = some (nL (xs.drop k)) := by
  show some (PyData.list (cutD (xs.map nI) (some (k : Int)) none)) = _
  unfold cutD
  have e2 : HT.sIx (xs.map nI).length (xs.map nI).length none = (xs.map nI).length := rfl
  have e1 : HT.sIx (xs.map nI).length 0 (some (k : Int)) = min k (xs.map nI).length := HT.sIx_nat (k := k) ..
  rw [e1, e2, List.length_map, Nat.min_eq_left h, ← List.map_drop, List.take_of_length_le (by rw [List.length_map, List.length_drop]; omega)]
/-- row[:k] + [x] + row[k + 1:] -/
theorem put_D (xs : List Nat) (k x : Nat) (h : k < xs.length) (hl : xs.length ≤ 1000) : ((((R.ofO (dInt (nI k))).bind fun x43 => R.ofO (dCut none (some x43) (nL xs))).bind fun x49 => R.ofO (dAdd x49 (.list ((nI x) :: [])))).bind fun x58 => ((R.ofO (dAdd (nI k) (.int 1))).bind fun x54 => (R.ofO (dInt x54)).bind fun x55 => R.ofO (dCut (some x55) none (nL xs))).bind fun x59 => R.ofO (dAdd x58 x59)) = .ok (nL (xs.take k ++ [x] ++ xs.drop (k + 1))) := by
  have e1 := dCut_to xs k (by omega)
  have e2 := dCut_from xs (k + 1) (by omega)
  have ea : dAdd (nI k) (.int 1) = some (nI (k + 1)) := dAdd_nat k 1
  simp only [dInt, ofO_some, bind_ok, e1, ea, e2]
  rw [dAdd_row _ _ (by rw [List.length_take]; unfold LIM; omega)]
  simp only [ofO_some, bind_ok]
  rw [show dAdd (nL (xs.take k ++ [x])) (nL (xs.drop (k + 1))) = some (.list ((xs.take k ++ [x]).map nI ++ (xs.drop (k + 1)).map nI)) from dAdd_list (by rw [List.length_map, List.length_map, List.length_append, List.length_take, List.length_drop, List.length_singleton]; unfold LIM; omega), ← List.map_append]
  rfl

/-! things left alone -/
def rst (n : Nat) (T : List Nat) : List Nat := (List.range n).filter fun k => !decide (k ∈ T)
theorem mem_rst {n k : Nat} {T : List Nat} : k ∈ rst n T ↔ k < n ∧ k ∉ T := by
  unfold rst
  rw [List.mem_filter, List.mem_range, Bool.not_eq_true', decide_eq_false_iff_not]
theorem rst_len (n : Nat) (T : List Nat) : (rst n T).length ≤ n := by
  have := List.length_filter_le (fun k => !decide (k ∈ T)) (List.range n)
  rw [List.length_range] at this
  exact this
def rstr (a : List Nat) (n : Nat) (T : List Nat) : List Nat := (rst n T).map fun k => a.getD k 0
def enoB (a b T : List Nat) : Bool := decide (numb (rstr a a.length T) = numb (rstr b a.length T))
theorem rstr_len (a : List Nat) (n : Nat) (T : List Nat) : (rstr a n T).length = (rst n T).length := by unfold rstr; rw [List.length_map]
theorem rstr_get {a : List Nat} {n : Nat} {T : List Nat} {p : Nat} (h : p < (rst n T).length) : (rstr a n T).getD p 0 = a.getD (rst n T)[p] 0 := by
  unfold rstr
  rw [List.getD_eq_getElem?_getD, List.getElem?_map, List.getElem?_eq_getElem h]
  rfl
theorem enoB_iff {a b T : List Nat} : enoB a b T = true ↔ Eno a b T := by
  unfold enoB
  rw [decide_eq_true_eq]
  constructor
  · intro h i j hi hj k1 k2
    obtain ⟨p, hp, ep⟩ := List.getElem_of_mem (mem_rst.mpr ⟨hi, k1⟩)
    obtain ⟨q, hq, eq⟩ := List.getElem_of_mem (mem_rst.mpr ⟨hj, k2⟩)
    have e1 := numb_getD (xs := rstr a a.length T) (i := p) (j := q) (by rw [rstr_len]; exact hp) (by rw [rstr_len]; exact hq)
    have e2 := numb_getD (xs := rstr b a.length T) (i := p) (j := q) (by rw [rstr_len]; exact hp) (by rw [rstr_len]; exact hq)
    rw [rstr_get hp, rstr_get hq, ep, eq] at e1 e2
    rw [h] at e1
    exact e1.symm.trans e2
  · intro h
    refine numb_congrN (by rw [rstr_len, rstr_len]) fun p q hp hq => ?_
    rw [rstr_len] at hp hq
    rw [rstr_get hp, rstr_get hq, rstr_get hp, rstr_get hq]
    have m1 := mem_rst.mp (List.getElem_mem hp)
    have m2 := mem_rst.mp (List.getElem_mem hq)
    exact h _ _ m1.1 m2.1 m1.2 m2.2
theorem rst_D {n : Nat} {T : List Nat} : R.comp some (fun a38 => (R.ofO (dNotIn a38 (nL T))).bind fun x39 => R.ofO (dBool x39)) (fun a38 => R.ok (a38)) ((List.range n).map nI) = .ok ((rst n T).map nI) := by
  rw [comp_ok (List.range n) nI some nI _ (fun k => !decide (k ∈ T)) _ nI (fun _ _ => rfl) (fun k _ => by simp only [dNotIn_nL, ofO_some, bind_ok, dBool_bool]) (fun _ _ _ => rfl)]
  rfl
theorem rstr_D {a : List Nat} {n : Nat} {T : List Nat} (h : n ≤ a.length) : R.comp some (fun _ => R.ok true) (fun a44 => R.ofO (dAt (nL a) a44)) ((rst n T).map nI) = .ok ((rstr a n T).map nI) := by
  rw [comp_map (rst n T) nI some nI _ (fun k => nI (a.getD k 0)) (fun _ _ => rfl) fun k hk => by
    have := (mem_rst.mp hk).1
    rw [dAt_nL (by omega), ofO_some]]
  unfold rstr
  rw [List.map_map]
  rfl


structure TL where
  l : List Nat
deriving DecidableEq
instance : Enc TL where
  enc := fun t => .tuple (t.l.map nI)
  eqv := fun a b => by
    simp only [PyData.eqv]
    refine (eqvAll_enc (α := Nat) a.l b.l).trans (decide_eq_decide.mpr ⟨fun h => ?_, fun h => by rw [h]⟩)
    cases a
    cases b
    cases h
    rfl
  lay := fun a => by simp only [PyData.canLay0]; exact layAll_enc (α := Nat) a.l
  dp := 1
  dep := fun a => by
    have := depAll_enc (α := Nat) a.l
    have e : Enc.dp Nat = 0 := rfl
    rw [e] at this
    have this : PyData.depthAll (a.l.map nI) ≤ 0 := this
    simp only [PyData.depth]
    omega
abbrev tD (t : List Nat) : D := .tuple (t.map nI)
def beg (t : List Nat) : Nat := if t = [] then 0 else t.getD (t.length - 1) 0 + 1
def chs (n : Nat) : Nat → List (List Nat)
  | 0 => [[]]
  | m + 1 => (chs n m).flatMap fun t => (List.range (n - beg t)).map fun i => t ++ [beg t + i]
theorem mem_chs (n : Nat) : ∀ (m : Nat) (t : List Nat), t ∈ chs n m → t.length = m ∧ ∀ x, x ∈ t → x < n
  | 0, t, h => by
    rw [List.mem_singleton.mp h]
    exact ⟨rfl, fun _ h => nomatch h⟩
  | m + 1, t, h => by
    obtain ⟨u, hu, ht⟩ := List.mem_flatMap.mp h
    obtain ⟨i, hi, rfl⟩ := List.mem_map.mp ht
    obtain ⟨h1, h2⟩ := mem_chs n m u hu
    have hi := List.mem_range.mp hi
    refine ⟨by rw [List.length_append, h1]; rfl, fun x hx => ?_⟩
    rcases List.mem_append.mp hx with h | h
    · exact h2 x h
    · rw [List.mem_singleton.mp h]; omega
theorem chs_grow (n : Nat) (hn : n ≤ 7) (l : List (List Nat)) : (l.flatMap fun t => (List.range (n - beg t)).map fun i => t ++ [beg t + i]).length ≤ l.length * 7 := by
  induction l with
  | nil => simp
  | cons t l ih =>
    rw [List.flatMap_cons, List.length_append, List.length_map, List.length_range, List.length_cons, Nat.succ_mul]
    omega
theorem chs_len (n : Nat) (hn : n ≤ 7) : ∀ m, (chs n m).length ≤ 7 ^ m
  | 0 => Nat.le_refl _
  | m + 1 => by
    rw [Nat.pow_succ]
    exact Nat.le_trans (chs_grow n hn _) (Nat.mul_le_mul_right _ (chs_len n hn m))
theorem dNotIn_tD (k : Nat) (t : List Nat) : dNotIn (nI k) (tD t) = some (.bool (!decide (k ∈ t))) := by
  show (if dFlat (nI k) = true ∧ (t.map nI).all dFlat = true then some (PyData.bool (true ^^ (t.map nI).any fun z => PyData.eqv z (nI k))) else none) = _
  rw [if_pos ⟨rfl, List.all_eq_true.mpr fun d hd => by
    obtain ⟨x, _, rfl⟩ := List.mem_map.mp hd
    rfl⟩]
  have := any_enc (α := Nat) k t
  rw [show ((t.map nI).any fun z => PyData.eqv z (nI k)) = _ from this]
  rw [Bool.true_xor]
theorem beg_D (t : List Nat) : ((((R.ofO (dNe (tD t) (.tuple []))).bind fun x21 => R.ofO (dBool x21)).bind fun b29 => if b29 = true then (R.ofO (dAt (tD t) (.int (-1)))).bind fun x27 => R.ofO (dAdd x27 (.int 1)) else R.ok (.int 0))) = .ok (nI (beg t)) := by
  rw [show dNe (tD t) (.tuple []) = _ from dNe_enc (α := TL) (by decide) ⟨t⟩ ⟨[]⟩]
  simp only [ofO_some, bind_ok, dBool_bool]
  rcases List.eq_nil_or_concat t with rfl | ⟨u, x, rfl⟩
  · rfl
  · rw [List.concat_eq_append]
    have hne : ¬ (TL.mk (u ++ [x]) = TL.mk []) := fun z => by cases u <;> cases z
    rw [decide_eq_false hne]
    simp only [Bool.not_false, if_true]
    have e : dAt (tD (u ++ [x])) (.int (-1)) = some (nI x) := by
      show L2.atI ((u ++ [x]).map nI) (-1) = _
      rw [List.map_append]
      exact L2.atI_last _ _
    rw [e]
    simp only [ofO_some, bind_ok]
    rw [show dAdd (nI x) (.int 1) = some (nI (x + 1)) from dAdd_nat x 1, ofO_some]
    congr 2
    unfold beg
    rw [if_neg (by simp)]
    simp [List.getD_eq_getElem?_getD]
theorem dAdd_tD {t : List Nat} {x : Nat} (h : t.length < LIM) : dAdd (tD t) (.tuple ((nI x) :: [])) = some (tD (t ++ [x])) := by
  show (if (t.map nI).length + 1 ≤ LIM then some (PyData.tuple (t.map nI ++ [nI x])) else none) = _
  rw [if_pos (by rw [List.length_map]; omega), tD, List.map_append]
  rfl

end GM
namespace GM
open PySem GA GD
open Enc (enc)
open _root_.TL (tl spl joinL)
/-! texts as lists of signs -/
def S (l : List Nat) : Str := ⟨l.toArray⟩
theorem S_tl (z : Str) : S (tl z) = z := _root_.TL.mk_tl z
theorem S_len (l : List Nat) : (S l).length = l.length := by rw [_root_.TL.len_tl]; rfl
theorem S_inj {a b : List Nat} (h : S a = S b) : a = b := congrArg tl h
theorem S_app (a b : List Nat) : S a ++ S b = S (a ++ b) := _root_.TL.ext_tl (by rw [_root_.TL.tl_append]; rfl)
def okc (l : List Nat) : Prop := ∀ c, c ∈ l → c < 1114112
theorem shp_S {l : List Nat} (h : okc l) : dShp (.str (S l)) = true := by
  have e : PyData.canLay0 (.str (S l)) = true := by
    simp only [PyData.canLay0, PyData.strOk]
    rw [← Array.all_toList]
    exact List.all_eq_true.mpr fun c hc => decide_eq_true (h c hc)
  unfold dShp SeqAt.shaped
  rw [e]
  simp [PyData.depth]
theorem dNe_S {a b : List Nat} (ha : okc a) (hb : okc b) : dNe (.str (S a)) (.str (S b)) = some (.bool (!decide (a = b))) := by
  unfold dNe
  rw [if_pos ⟨shp_S ha, shp_S hb⟩]
  congr 3
  simp only [PyData.eqv]
  rw [Bool.beq_eq_decide_eq]
  exact decide_eq_decide.mpr ⟨S_inj, fun e => by rw [e]⟩
theorem e_S0 : ("" : Str) = S [] := by decide +kernel
theorem e_S1 : ("|" : Str) = S [124] := by decide +kernel
theorem e_SD : ("0123456789" : Str) = S [48, 49, 50, 51, 52, 53, 54, 55, 56, 57] := by decide +kernel
def dgt (c : Nat) : Bool := decide (48 ≤ c) && decide (c ≤ 57)
theorem chars_S (l : List Nat) (h : l.length ≤ 1000) : dChars (.str (S l)) = some (l.map fun c => .str (S [c])) := by
  show (if (S l).cps.size ≤ LIM then some ((S l).cps.toList.map fun c => PyData.str ⟨#[c]⟩) else none) = _
  have e : (S l).cps.size = l.length := S_len l
  rw [if_pos (by rw [e]; unfold LIM; omega)]
  rfl
theorem in_dig (c : Nat) : dIn (.str (S [c])) (.str "0123456789") = some (.bool (dgt c)) := by
  rw [e_SD]
  show some (PyData.bool (false ^^ decide (c ∈ [48, 49, 50, 51, 52, 53, 54, 55, 56, 57]))) = _
  rw [Bool.false_xor]
  have : decide (c ∈ [48, 49, 50, 51, 52, 53, 54, 55, 56, 57]) = dgt c := by
    unfold dgt
    rw [← Bool.decide_and]
    refine decide_eq_decide.mpr ?_
    simp only [List.mem_cons, List.not_mem_nil, or_false]
    omega
  rw [this]
theorem int_dig {c : Nat} (h : dgt c = true) : dIntS (.str (S [c]) :: []) = some (nI (c - 48)) := by
  unfold dgt at h
  rw [Bool.and_eq_true, decide_eq_true_eq, decide_eq_true_eq] at h
  have e : intText? (S [c]) = some ((NumText.digitsVal [c] : Nat) : Int) := by
    refine PySem.intText_digits (x := S [c]) ?_ (by show [c] ≠ []; simp) (by rw [S_len]; simp)
    intro d hd
    have hd : d ∈ [c] := hd
    rw [List.mem_singleton.mp hd]
    omega
  show (if (S [c]).length ≤ 640 then (intText? (S [c])).map PyData.int else none) = _
  rw [if_pos (by rw [S_len]; simp), e]
  have : NumText.digitsVal [c] = c - 48 := by show 0 * 10 + (c - 48) = c - 48; omega
  rw [this]
  rfl
theorem str_dig {g : Nat} (h : g < 10) : dStrI (nI g :: []) = some (.str (S [48 + g])) := by
  show (if -1000000 ≤ (g : Int) ∧ (g : Int) ≤ 1000000 then some (PyData.str (Str.ofString (toString (g : Int)))) else none) = _
  rw [if_pos (by omega)]
  have : Str.ofString (toString (g : Int)) = S [48 + g] := _root_.TL.ext_tl (by rw [_root_.TL.tl_num, _root_.TL.numL_lt h]; rfl)
  rw [this]
theorem strs_S : ∀ ps : List (List Nat), dStrs (ps.map fun p => .str (S p)) = some (ps.map S)
  | [] => rfl
  | p :: ps => by rw [List.map_cons, dStrs, strs_S ps]; rfl
theorem lens_S (ps : List (List Nat)) : ((ps.map S).map (·.length)).sum = ps.flatten.length := by
  induction ps with
  | nil => rfl
  | cons p ps ih => rw [List.map_cons, List.map_cons, List.sum_cons, ih, List.flatten_cons, List.length_append, S_len]
theorem join_S (sep : List Nat) (ps : List (List Nat)) (h : ps.flatten.length + ps.length * sep.length ≤ 100000) : dJoin (S sep) (.list (ps.map fun p => .str (S p))) = some (.str (S (joinL sep ps))) := by
  show (dStrs (ps.map fun p => .str (S p))).bind _ = _
  rw [strs_S, Option.bind_some, lens_S, List.length_map, S_len, if_pos (by omega)]
  have : Txt.join (S sep) (ps.map S) = S (joinL sep ps) := _root_.TL.ext_tl (by
    rw [_root_.TL.join_eq, _root_.TL.tl_join, List.map_map]
    show joinL sep (ps.map fun p => p) = joinL sep ps
    rw [List.map_id'])
  rw [this]
theorem join_nil : ∀ ps : List (List Nat), joinL [] ps = ps.flatten
  | [] => rfl
  | [p] => by show p = _; simp
  | p :: q :: r => by
    show p ++ ([] ++ joinL [] (q :: r)) = _
    rw [List.nil_append, join_nil (q :: r), List.flatten_cons (l := p)]
theorem join_one : ∀ ps : List (List Nat), (joinL [124] ps).length ≤ ps.flatten.length + ps.length
  | [] => by simp [joinL]
  | [p] => by show p.length ≤ _; simp
  | p :: q :: r => by
    have := join_one (q :: r)
    show (p ++ ([124] ++ joinL [124] (q :: r))).length ≤ _
    rw [List.length_append, List.length_append, List.flatten_cons, List.length_append, List.length_cons (a := p)]
    simp only [List.length_singleton]
    omega
/-- digits -/
def dgs (g : List Nat) : List Nat := g.map (48 + ·)
def und (l : List Nat) : List Nat := l.map (· - 48)
theorem dgs_len (g : List Nat) : (dgs g).length = g.length := List.length_map ..
theorem und_len (g : List Nat) : (und g).length = g.length := List.length_map ..
theorem und_dgs (g : List Nat) : und (dgs g) = g := by
  unfold und dgs
  rw [List.map_map]
  conv => rhs; rw [← List.map_id g]
  exact List.map_congr_left fun x _ => by show 48 + x - 48 = x; omega
theorem dgs_und {l : List Nat} (h : l.all dgt = true) : dgs (und l) = l := by
  unfold und dgs
  rw [List.map_map]
  conv => rhs; rw [← List.map_id l]
  refine List.map_congr_left fun x hx => ?_
  have := List.all_eq_true.mp h x hx
  unfold dgt at this
  rw [Bool.and_eq_true, decide_eq_true_eq, decide_eq_true_eq] at this
  show 48 + (x - 48) = x
  omega
theorem dgs_dgt {g : List Nat} (h : ∀ x, x ∈ g → x < 10) : (dgs g).all dgt = true := by
  refine List.all_eq_true.mpr fun c hc => ?_
  obtain ⟨x, hx, rfl⟩ := List.mem_map.mp hc
  have := h x hx
  unfold dgt
  rw [decide_eq_true (by omega), decide_eq_true (by omega)]
  rfl
theorem dgs_flat (g : List Nat) : (g.map fun x => [48 + x]).flatten = dgs g := by
  unfold dgs
  induction g with
  | nil => rfl
  | cons x xs ih => rw [List.map_cons, List.flatten_cons, ih, List.map_cons]; rfl
/-- ''.join([str(x) for x in g]) -/
theorem text_D (g : List Nat) (h : ∀ x, x ∈ g → x < 10) (hl : g.length ≤ 1000) : ((R.comp some (fun _ => R.ok true) (fun a5 => R.ofO (dStrI (a5 :: []))) (g.map nI)).bind fun ds10 => R.ok (.list ds10)).bind (fun x13 => R.ofO (dJoin "" x13)) = .ok (.str (S (dgs g))) := by
  rw [comp_map g nI some nI _ (fun x => .str (S [48 + x])) (fun _ _ => rfl) fun x hx => by rw [str_dig (h x hx)]; rfl, bind_ok, bind_ok, e_S0]
  have := join_S [] (g.map fun x => [48 + x]) (by rw [dgs_flat, dgs_len]; simp; omega)
  rw [List.map_map, join_nil, dgs_flat] at this
  rw [show (g.map fun x => PyData.str (S [48 + x])) = g.map ((fun p => PyData.str (S p)) ∘ fun x => [48 + x]) from rfl, this]
  rfl
def w0 (row : List Nat) : List Nat := dgs row
def w1 (row : List Nat) : List Nat := joinL [124] ((grps row).map dgs)
theorem Grp.lt10 {row : List Nat} (h : Grp row) : ∀ x, x ∈ row → x < 10 := fun x hx => by
  have := lt_ng hx
  have := h.ng_le
  have := h.2.1
  omega
theorem grps_lt {row : List Nat} (h : Grp row) : ∀ q, q ∈ grps row → ∀ x, x ∈ q → x < 10 := fun q hq x hx => by
  obtain ⟨g, _, rfl⟩ := List.mem_map.mp hq
  have := List.mem_range.mp (List.mem_filter.mp hx).1
  have := h.2.1
  omega
theorem grps_len (row : List Nat) : (grps row).length = ng row := by unfold grps; rw [List.length_map, List.length_range]
theorem grps_each {row q : List Nat} (h : q ∈ grps row) : q.length ≤ row.length := by
  obtain ⟨g, _, rfl⟩ := List.mem_map.mp h
  exact Nat.le_trans (List.length_filter_le _ _) (by rw [List.length_range]; exact Nat.le_refl _)
theorem flat_le (k : Nat) : ∀ ps : List (List Nat), (∀ p, p ∈ ps → p.length ≤ k) → ps.flatten.length ≤ ps.length * k
  | [], _ => by simp
  | p :: ps, h => by
    have h1 := flat_le k ps fun q hq => h q (List.mem_cons_of_mem _ hq)
    have h2 := h p (List.mem_cons_self ..)
    rw [List.flatten_cons, List.length_append, List.length_cons, Nat.add_mul]
    omega
theorem grps_flat {row : List Nat} (h : Grp row) : ((grps row).map dgs).flatten.length ≤ 49 := by
  have := flat_le row.length ((grps row).map dgs) fun p hp => by
    obtain ⟨q, hq, rfl⟩ := List.mem_map.mp hp
    rw [dgs_len]; exact grps_each hq
  rw [List.length_map, grps_len] at this
  have h1 := h.ng_le
  have h2 := h.2.1
  have : ng row * row.length ≤ 7 * 7 := Nat.mul_le_mul (by omega) h2
  omega
theorem written0 {row : List Nat} (h : Grp row) : d_law_written [.int 0, nL row] = .ok (.str (S (w0 row))) := by
  have e0 : dEq (.int 0) (.int 0) = some (.bool true) := dEq_int 0 0
  have := h.2.1
  simp only [d_law_written, e0, ofO_some, bind_ok, dBool_bool, if_true, dStr, dList_list]
  exact text_D row h.lt10 (by omega)
theorem groups_D {row : List Nat} (h : Grp row) : ((R.comp some (fun _ => R.ok true) (fun a7 => (R.ofO (dStr (.str ""))).bind fun s16 => (((R.ofO (dList a7)).bind fun ds13 => R.comp some (fun _ => R.ok true) (fun a9 => R.ofO (dStrI (a9 :: []))) ds13).bind fun ds14 => R.ok (.list ds14)).bind fun x17 => R.ofO (dJoin s16 x17)) ((grps row).map nL)).bind fun ds19 => R.ok (.list ds19)).bind (fun x22 => R.ofO (dJoin "|" x22)) = .ok (.str (S (w1 row))) := by
  rw [comp_map (grps row) nL some nL _ (fun q => .str (S (dgs q))) (fun _ _ => rfl) fun q hq => ?_]
  · rw [bind_ok, bind_ok, e_S1]
    have := join_S [124] ((grps row).map dgs) (by
      have := grps_flat h
      have h1 := h.ng_le
      have h2 := h.2.1
      rw [List.length_map, grps_len]
      simp only [List.length_singleton]
      omega)
    rw [List.map_map] at this
    rw [show ((grps row).map fun q => PyData.str (S (dgs q))) = (grps row).map ((fun p => PyData.str (S p)) ∘ dgs) from rfl, this]
    rfl
  · simp only [dStr, ofO_some, bind_ok, dList_list]
    exact text_D q (grps_lt h q hq) (by have := grps_each hq; have := h.2.1; omega)
theorem written1 {row : List Nat} (h : Grp row) : d_law_written [.int 1, nL row] = .ok (.str (S (w1 row))) := by
  have e0 : dEq (.int 1) (.int 0) = some (.bool false) := dEq_int 1 0
  simp only [d_law_written, e0, ofO_some, bind_ok, dBool_bool, Bool.false_eq_true, if_false, law_groups_nL h, dList_list]
  exact groups_D h
theorem format0 {row : List Nat} (h : Grp row) : d_format_grouping [nL row] = .ok (.str (S (w0 row))) := by
  have := h.2.1
  simp only [d_format_grouping, bind_ok, check_grouping_nL h, ofO_some, dStr, dList_list]
  exact text_D row h.lt10 (by omega)
theorem format1 {row : List Nat} (h : Grp row) : d_format_groups [nL row] = .ok (.str (S (w1 row))) := by
  simp only [d_format_groups, bind_ok, check_grouping_nL h, groups_of_nL h, dList_list, ofO_some]
  exact groups_D h
/-! parsing -/
theorem dAllM {α : Type} (xs : List α) (p : α → Bool) : dAll (.list (xs.map fun x => .bool (p x)) :: []) = some (.bool (xs.all p)) := by
  have e : ∀ ys : List α, dBools (ys.map fun x => PyData.bool (p x)) = some (ys.map p) := fun ys => by
    induction ys with
    | nil => rfl
    | cons y ys ih => simp only [List.map_cons, dBools, ih, Option.map_some]
  show (dBools (xs.map fun x => PyData.bool (p x))).map _ = _
  rw [e, Option.map_some]
  congr 2
  rw [List.all_map]
  rfl
theorem digs_D (l : List Nat) : R.comp some (fun _ => R.ok true) (fun a5 => R.ofO (dIn a5 (.str "0123456789"))) (l.map fun c => .str (S [c])) = .ok (l.map fun c => .bool (dgt c)) :=
  comp_map l (fun c => .str (S [c])) some (fun c => .str (S [c])) _ (fun c => .bool (dgt c)) (fun _ _ => rfl) fun c _ => by rw [in_dig]; rfl
theorem ints_S {l : List Nat} (h : l.all dgt = true) : R.comp some (fun _ => R.ok true) (fun a18 => R.ofO (dIntS (a18 :: []))) (l.map fun c => .str (S [c])) = .ok ((und l).map nI) := by
  unfold und
  rw [List.map_map]
  exact comp_map l (fun c => .str (S [c])) some (fun c => .str (S [c])) _ _ (fun _ _ => rfl) fun c hc => by rw [int_dig (List.all_eq_true.mp h c hc)]; rfl
theorem isStr (z : Str) : dIsTy .str (.str z) = some (.bool true) := rfl
theorem parse0 (l : List Nat) (hl : l.length ≤ 1000) : d_parse_grouping [.str (S l)] = if l.all dgt = true then (if grpB (und l) = true then .ok (nL (und l)) else .err 3) else .err 3 := by
  simp only [d_parse_grouping, bind_ok, d_check_text, isStr, ofO_some, dBool_bool, Bool.not_true, Bool.false_eq_true, if_false, seqE_nx, chars_S l hl, digs_D, dAllM]
  cases e : l.all dgt with
  | false => rfl
  | true =>
    simp only [Bool.not_true, Bool.false_eq_true, if_false, ints_S e, bind_ok, if_true, is_grouping_nL, dBool_bool, ofO_some]
    cases e2 : grpB (und l) with
    | false => rfl
    | true => simp only [Bool.not_true, Bool.false_eq_true, if_false, if_true]
/-! the parts of a text -/
def prt (l : List Nat) : List (List Nat) := spl [124] 0 [] l
theorem spl_mem : ∀ (l acc : List Nat) (p : List Nat), p ∈ spl [124] 0 acc l → ∀ c, c ∈ p → c ∈ acc ∨ c ∈ l
  | [], acc, p, hp, c, hc => by
    rw [_root_.TL.spl_nil] at hp
    rw [List.mem_singleton.mp hp] at hc
    exact .inl hc
  | x :: l, acc, p, hp, c, hc => by
    cases e : _root_.TL.pre [124] (x :: l) with
    | true =>
      rw [_root_.TL.spl_hit e] at hp
      rcases List.mem_cons.mp hp with rfl | hp
      · exact .inl hc
      · rcases spl_mem l [] p hp c hc with h | h
        · cases h
        · exact .inr (List.mem_cons_of_mem _ h)
    | false =>
      rw [_root_.TL.spl_miss e] at hp
      rcases spl_mem l (acc ++ [x]) p hp c hc with h | h
      · rcases List.mem_append.mp h with h | h
        · exact .inl h
        · exact .inr (by rw [List.mem_singleton.mp h]; exact List.mem_cons_self ..)
      · exact .inr (List.mem_cons_of_mem _ h)
theorem prt_ok {l p : List Nat} (h : okc l) (hp : p ∈ prt l) : okc p := fun c hc => by
  rcases spl_mem l [] p hp c hc with z | z
  · cases z
  · exact h c z
theorem spl_ne : ∀ (l acc : List Nat), spl [124] 0 acc l ≠ []
  | [], acc => by rw [_root_.TL.spl_nil]; simp
  | x :: l, acc => by
    cases e : _root_.TL.pre [124] (x :: l) with
    | true => rw [_root_.TL.spl_hit e]; simp
    | false => rw [_root_.TL.spl_miss e]; exact spl_ne l _
theorem pre_one {x : Nat} {l : List Nat} (h : _root_.TL.pre [124] (x :: l) = true) : x = 124 := by
  simp only [_root_.TL.pre] at h
  simpa using h
theorem join_spl : ∀ (l acc : List Nat), joinL [124] (spl [124] 0 acc l) = acc ++ l
  | [], acc => by rw [_root_.TL.spl_nil, List.append_nil]; rfl
  | x :: l, acc => by
    cases e : _root_.TL.pre [124] (x :: l) with
    | true =>
      rw [_root_.TL.spl_hit e, pre_one e]
      have ih := join_spl l []
      have hne := spl_ne l []
      show joinL [124] (acc :: spl [124] 0 [] l) = _
      cases e2 : spl [124] 0 [] l with
      | nil => exact absurd e2 hne
      | cons q r =>
        rw [e2, List.nil_append] at ih
        show acc ++ ([124] ++ joinL [124] (q :: r)) = _
        rw [ih]
        rfl
    | false =>
      rw [_root_.TL.spl_miss e, join_spl l (acc ++ [x]), List.append_assoc]
      rfl
theorem spl_len : ∀ (l acc : List Nat), (spl [124] 0 acc l).flatten.length ≤ acc.length + l.length ∧ (spl [124] 0 acc l).length ≤ l.length + 1
  | [], acc => by rw [_root_.TL.spl_nil]; simp
  | x :: l, acc => by
    cases e : _root_.TL.pre [124] (x :: l) with
    | true =>
      rw [_root_.TL.spl_hit e]
      have ih := spl_len l []
      show (acc :: spl [124] 0 [] l).flatten.length ≤ _ ∧ (acc :: spl [124] 0 [] l).length ≤ _
      rw [List.flatten_cons, List.length_append, List.length_cons, List.length_cons]
      simp only [List.length_nil] at ih
      omega
    | false =>
      rw [_root_.TL.spl_miss e]
      have ih := spl_len l (acc ++ [x])
      rw [List.length_append, List.length_singleton] at ih
      rw [List.length_cons]
      omega
theorem prt_join (l : List Nat) : joinL [124] (prt l) = l := (join_spl l []).trans (List.nil_append l)
theorem split_S (l : List Nat) (hl : l.length ≤ 1000) : dSplit (S l) (.str "|") = some ((prt l).map fun p => .str (S p)) := by
  rw [e_S1]
  have e : Txt.split (S l) (S [124]) = (prt l).map S := by
    refine _root_.TL.map_tl_inj ?_
    rw [_root_.TL.split_spl (S l) (S [124]) (by show [124] ≠ []; simp) (_root_.TL.kind_ok (by decide +kernel)), List.map_map]
    show spl [124] 0 [] l = (prt l).map fun p => p
    rw [List.map_id']
    rfl
  show (if ((S [124]).length == 0) = false ∧ (S l).length + 2 ≤ LIM then some ((Txt.split (S l) (S [124])).map PyData.str) else none) = _
  rw [if_pos ⟨by decide +kernel, by rw [S_len]; unfold LIM; omega⟩, e, List.map_map]
  rfl
def good (p : List Nat) : Bool := !decide (p = []) && p.all dgt
theorem goods_D {l : List Nat} (h : okc l) (hl : l.length ≤ 1000) : R.comp some (fun _ => R.ok true) (fun a10 => ((R.ofO (dNe a10 (.str ""))).bind fun x22 => R.ofO (dBool x22)).bind fun x23 => if x23 = true then ((((R.ofO (dChars a10)).bind fun ds17 => R.comp some (fun _ => R.ok true) (fun a14 => R.ofO (dIn a14 (.str "0123456789"))) ds17).bind fun ds18 => R.ok (.list ds18)).bind fun d19 => R.ok (d19 :: [])).bind fun ds21 => R.ofO (dAll ds21) else R.ok (.bool false)) ((prt l).map fun p => .str (S p)) = .ok ((prt l).map fun p => .bool (good p)) := by
  refine comp_map (prt l) (fun p => .str (S p)) some (fun p => .str (S p)) _ (fun p => .bool (good p)) (fun _ _ => rfl) fun p hp => ?_
  have hpl : p.length ≤ 1000 := by
    have := (spl_len l []).1
    have h2 := (List.sublist_flatten_of_mem hp).length_le
    simp only [List.length_nil] at this
    exact Nat.le_trans h2 (by unfold prt; omega)
  have e := dNe_S (prt_ok h hp) (b := []) (fun c hc => nomatch hc)
  rw [← e_S0] at e
  simp only [e, ofO_some, bind_ok, dBool_bool, chars_S p hpl, digs_D, dAllM]
  unfold good
  cases decide (p = []) <;> simp
theorem things_D {ps : List (List Nat)} (h : ∀ p, p ∈ ps → p.all dgt = true ∧ p.length ≤ 1000) : R.comp some (fun _ => R.ok true) (fun a34 => ((R.ofO (dChars a34)).bind fun ds40 => R.comp some (fun _ => R.ok true) (fun a36 => R.ofO (dIntS (a36 :: []))) ds40).bind fun ds41 => R.ok (.list ds41)) (ps.map fun p => .str (S p)) = .ok ((ps.map und).map nL) := by
  rw [List.map_map]
  refine comp_map ps (fun p => .str (S p)) some (fun p => .str (S p)) _ _ (fun _ _ => rfl) fun p hp => ?_
  obtain ⟨h1, h2⟩ := h p hp
  simp only [chars_S p h2, ofO_some, bind_ok, ints_S h1]
  rfl
/-- grouping_of, of any groups -/
theorem grouping_of_total {Q : List (List Nat)} (hne : ∀ q, q ∈ Q → q ≠ []) (hl : Q.flatten.length ≤ 1000) : d_grouping_of [nLL Q] = .err 0 ∨ ∃ row, Grp row ∧ d_grouping_of [nLL Q] = .ok (nL row) := by
  by_cases hp : Q.flatten.Perm (List.range Q.flatten.length) ∧ 1 ≤ Q.flatten.length ∧ Q.flatten.length ≤ 7
  · obtain ⟨hp, h1, h7⟩ := hp
    right
    have nd : Q.flatten.Nodup := hp.nodup_iff.mpr List.nodup_range
    have hm : Q.length ≤ Q.flatten.length := by
      clear hp h1 h7 nd hl
      induction Q with
      | nil => simp
      | cons q Q ih =>
        have := ih fun q' hq' => hne q' (List.mem_cons_of_mem _ hq')
        have : 1 ≤ q.length := List.length_pos_iff.mpr (hne q (List.mem_cons_self ..))
        rw [List.length_cons, List.flatten_cons, List.length_append]
        omega
    have eQ : Q = (List.range Q.length).map fun i => Q.getD i [] := by
      apply List.ext_getElem
      · simp
      · intro i h1 h2
        simp [List.getD_eq_getElem?_getD, List.getElem?_eq_getElem h1]
    have key := grouping_of_core h1 h7 (Nat.le_trans hm h7) (fun i => Q.getD i []) (fun k => Q.findIdx fun q => decide (k ∈ q)) (fun i hi => ?_) (fun k hk => ?_) (by rw [← eQ]; exact hp)
    · rw [← eQ] at key
      exact ⟨_, ⟨by rw [numb_length, List.length_map, List.length_range]; exact h1, by rw [numb_length, List.length_map, List.length_range]; exact h7, (numb_chk _).1⟩, key⟩
    · have : Q.getD i [] = Q[i] := by simp [List.getD_eq_getElem?_getD, List.getElem?_eq_getElem hi]
      rw [this]
      exact hne _ (List.getElem_mem hi)
    · have hk' : k ∈ Q.flatten := hp.mem_iff.mpr (List.mem_range.mpr hk)
      obtain ⟨q, hq, hkq⟩ := List.mem_flatten.mp hk'
      have hf : Q.findIdx (fun q => decide (k ∈ q)) < Q.length := List.findIdx_lt_length_of_exists ⟨q, hq, decide_eq_true hkq⟩
      have hf2 : k ∈ Q[Q.findIdx (fun q => decide (k ∈ q))] := by
        have := List.findIdx_getElem (w := hf)
        exact of_decide_eq_true this
      refine ⟨hf, fun i hi => ?_⟩
      have ei : Q.getD i [] = Q[i] := by simp [List.getD_eq_getElem?_getD, List.getElem?_eq_getElem hi]
      show k ∈ Q.getD i [] ↔ _
      rw [ei]
      refine ⟨fun hi' => ?_, fun e => by subst e; exact hf2⟩
      have pw := (List.pairwise_flatten.mp nd).2
      by_cases e : Q.findIdx (fun q => decide (k ∈ q)) = i
      · exact e
      · exfalso
        rcases Nat.lt_or_gt_of_ne e with lt | gt
        · exact (List.pairwise_iff_getElem.mp pw _ _ hf hi lt) k hf2 k hi' rfl
        · exact (List.pairwise_iff_getElem.mp pw _ _ hi hf gt) k hi' k hf2 rfl
  · left
    simp only [d_grouping_of, dIsTy, isT, ofO_some, bind_ok, dBool_bool, Bool.not_true, Bool.false_eq_true, if_false, dList_list]
    rw [comp_map Q nL some nL _ (fun _ => .bool true) (fun _ _ => rfl) fun g hg => ?_]
    rotate_left
    · have : ¬ g = [] := hne g hg
      simp only [if_true]
      rw [show (PyData.list [] : D) = nL [] from rfl, dNe_nL]
      simp [this]
    simp only [bind_ok, allB_true, ofO_some, dBool_bool, Bool.not_true, Bool.false_eq_true, if_false]
    rw [show (PyData.list [] : D) = nL [] from rfl, flat_fold _ _ (by unfold LIM; simp only [List.length_nil]; omega)]
    simp only [bind_ok, List.nil_append, dLen_list, List.length_map, ofO_some, dLe_int]
    by_cases c1 : 1 ≤ Q.flatten.length
    · by_cases c2 : Q.flatten.length ≤ 7
      · have e1 : (1 : Int) ≤ (Q.flatten.length : Int) := by omega
        have e2 : (Q.flatten.length : Int) ≤ 7 := by omega
        simp only [e1, e2, decide_true, dBool_bool, if_true, ofO_some, bind_ok, Bool.not_true, Bool.false_eq_true, if_false, dList_list]
        rw [comp_map _ nI some nI _ (fun x => .bool (decide (x ≤ 6))) (fun _ _ => rfl) fun x hx => ?_]
        rotate_left
        · have a1 : (0 : Int) ≤ (x : Int) := by omega
          have a2 : decide ((x : Int) ≤ 6) = decide (x ≤ 6) := decide_eq_decide.mpr (by omega)
          simp only [bind_ok, is_int_int, a1, a2, decide_true, Bool.true_and]
        simp only [bind_ok, dAllM, ofO_some, dBool_bool]
        cases e6 : Q.flatten.all fun x => decide (x ≤ 6) with
        | false => rfl
        | true =>
          simp only [Bool.not_true, Bool.false_eq_true, if_false]
          rw [dRange1_nat _ (by omega)]
          simp only [dSortA, dInts_nat, Option.map_some, ofO_some, bind_ok]
          have np : ¬ Q.flatten.Perm (List.range Q.flatten.length) := fun z => hp ⟨z, c1, c2⟩
          have ne : ¬ (sortI (Q.flatten.map fun (n : Nat) => (n : Int)) = (List.range Q.flatten.length).map fun (n : Nat) => (n : Int)) := fun z => by
            have p := sortI_perm (Q.flatten.map fun (n : Nat) => (n : Int))
            rw [z] at p
            refine np ?_
            have p2 := (p.map Int.toNat).symm
            rw [List.map_map, List.map_map] at p2
            have e : ∀ xs : List Nat, xs.map (Int.toNat ∘ fun (n : Nat) => (n : Int)) = xs := fun xs => by
              conv => rhs; rw [← List.map_id xs]
              exact List.map_congr_left fun x _ => by simp
            rw [e, e] at p2
            exact p2
          have dn := dNe_enc (α := List Int) (by decide) (sortI (Q.flatten.map fun (n : Nat) => (n : Int))) ((List.range Q.flatten.length).map fun (n : Nat) => (n : Int))
          rw [decide_eq_false ne] at dn
          have dn' : dNe (.list ((sortI (Q.flatten.map fun (n : Nat) => (n : Int))).map PyData.int)) (.list ((List.range Q.flatten.length).map nI)) = some (.bool true) := by
            rw [← show ((List.range Q.flatten.length).map fun (n : Nat) => (n : Int)).map PyData.int = (List.range Q.flatten.length).map nI from by rw [List.map_map]; rfl]
            exact dn
          rw [dn']
          rfl
      · have e1 : (1 : Int) ≤ (Q.flatten.length : Int) := by omega
        have e2 : ¬ (Q.flatten.length : Int) ≤ 7 := by omega
        simp only [e1, e2, decide_true, decide_false, dBool_bool, if_true, ofO_some, bind_ok, Bool.not_false]
    · have e1 : ¬ (1 : Int) ≤ (Q.flatten.length : Int) := by omega
      simp only [e1, decide_false, dBool_bool, ofO_some, bind_ok, Bool.not_false, Bool.false_eq_true, if_false, if_true]
theorem dIs_nL (xs : List Nat) : dIs (nL xs) .none = some (.bool false) := rfl
theorem dIs_non : dIs .none .none = some (.bool true) := rfl
theorem tryc_err {α β : Type} (fin : α → β) (fer : Nat → β) (k : Nat) (h : k < 5) : R.tryc fin fer (.err k) = .ok (fer k) := by
  show (if k < 5 then R.ok (fer k) else R.bad) = _
  rw [if_pos h]
theorem tryc_ok {α β : Type} (fin : α → β) (fer : Nat → β) (a : α) : R.tryc fin fer (.ok a) = .ok (fin a) := rfl
theorem prt_le {l p : List Nat} (hl : l.length ≤ 1000) (hp : p ∈ prt l) : p.length ≤ 1000 := by
  have := (spl_len l []).1
  have h2 := (List.sublist_flatten_of_mem hp).length_le
  simp only [List.length_nil] at this
  exact Nat.le_trans h2 (by unfold prt; omega)
theorem und_flat (ps : List (List Nat)) : (ps.map und).flatten.length = ps.flatten.length := by
  induction ps with
  | nil => rfl
  | cons p ps ih => rw [List.map_cons, List.flatten_cons, List.length_append, ih, List.flatten_cons, List.length_append, und_len]
theorem parse1_false {l : List Nat} (h : okc l) (hl : l.length ≤ 1000) (hg : (prt l).all good = false) : d_parse_groups [.str (S l)] = .err 3 := by
  simp only [d_parse_groups, bind_ok, d_check_text, isStr, ofO_some, dBool_bool, Bool.not_true, Bool.false_eq_true, if_false, seqE_nx, dStr, split_S l hl, dList_list, goods_D h hl, dAllM, hg, Bool.not_false, if_true]
theorem parse1_true {l : List Nat} (h : okc l) (hl : l.length ≤ 1000) (hg : (prt l).all good = true) : d_parse_groups [.str (S l)] = (R.tryc (fun (a : D) => a) (fun (_ : Nat) => (.none : D)) (d_grouping_of [nLL ((prt l).map und)])).bind fun p46 => (((R.ofO (dIs p46 .none)).bind fun x47 => R.ofO (dBool x47)).bind fun b55 => if b55 = true then R.ok true else (((R.ok (p46 :: [])).bind d_groups_of).bind fun x53 => R.ofO (dNe x53 (nLL ((prt l).map und)))).bind fun x50 => R.ofO (dBool x50)).bind fun b56 => if b56 = true then R.err 3 else R.ok (p46) := by
  have hd : ∀ p, p ∈ prt l → p.all dgt = true ∧ p.length ≤ 1000 := fun p hp => by
    have := List.all_eq_true.mp hg p hp
    unfold good at this
    rw [Bool.and_eq_true] at this
    exact ⟨this.2, prt_le hl hp⟩
  simp only [d_parse_groups, bind_ok, d_check_text, isStr, ofO_some, dBool_bool, Bool.not_true, Bool.false_eq_true, if_false, seqE_nx, dStr, split_S l hl, dList_list, goods_D h hl, dAllM, hg, things_D hd]
theorem good_ne {p : List Nat} (h : good p = true) : p ≠ [] ∧ p.all dgt = true := by
  unfold good at h
  rw [Bool.and_eq_true, Bool.not_eq_true', decide_eq_false_iff_not] at h
  exact h
theorem parse1 {l : List Nat} (h : okc l) (hl : l.length ≤ 1000) : d_parse_groups [.str (S l)] = .err 3 ∨ ∃ row, Grp row ∧ d_parse_groups [.str (S l)] = .ok (nL row) ∧ l = w1 row := by
  cases hg : (prt l).all good with
  | false => exact .inl (parse1_false h hl hg)
  | true =>
    have hq := List.all_eq_true.mp hg
    rw [parse1_true h hl hg]
    rcases grouping_of_total (Q := (prt l).map und) (fun q hq' => by
        obtain ⟨p, hp, rfl⟩ := List.mem_map.mp hq'
        intro z
        exact (good_ne (hq p hp)).1 (List.eq_nil_of_length_eq_zero (by rw [← und_len, z]; rfl))) (by rw [und_flat]; have := (spl_len l []).1; simp only [List.length_nil] at this; unfold prt; omega) with e | ⟨row, hr, e⟩
    · left
      rw [e, tryc_err _ _ 0 (by decide)]
      simp only [bind_ok, dIs_non, ofO_some, dBool_bool, if_true]
    · rw [e, tryc_ok]
      simp only [bind_ok, dIs_nL, ofO_some, dBool_bool, Bool.false_eq_true, if_false, groups_of_nL hr, dNe_nLL]
      by_cases z : grps row = (prt l).map und
      · right
        refine ⟨row, hr, by rw [decide_eq_true z]; rfl, ?_⟩
        unfold w1
        rw [z, List.map_map]
        have : (prt l).map (dgs ∘ und) = prt l := by
          conv => rhs; rw [← List.map_id (prt l)]
          exact List.map_congr_left fun p hp => dgs_und (good_ne (hq p hp)).2
        rw [this, prt_join]
      · left
        rw [decide_eq_false z]
        rfl
theorem dgs_no {q : List Nat} (h : ∀ x, x ∈ q → x < 10) : 124 ∉ dgs q := fun hm => by
  obtain ⟨x, hx, e⟩ := List.mem_map.mp hm
  have := h x hx
  omega
theorem prt_w1 {row : List Nat} (h : Grp row) : prt (w1 row) = (grps row).map dgs := by
  refine _root_.TL.spl_join (s := 124) (S := []) ?_ ?_
  · intro z
    have := congrArg List.length z
    rw [List.length_map, grps_len] at this
    have := lt_ng (List.getElem_mem (show 0 < row.length from h.1))
    simp only [List.length_nil] at *
    omega
  · intro p hp
    obtain ⟨q, hq, rfl⟩ := List.mem_map.mp hp
    exact dgs_no (grps_lt h q hq)
theorem dgs_ok {q : List Nat} (h : ∀ x, x ∈ q → x < 10) : okc (dgs q) := fun c hc => by
  obtain ⟨x, hx, rfl⟩ := List.mem_map.mp hc
  have := h x hx
  omega
theorem w0_ok {row : List Nat} (h : Grp row) : okc (w0 row) := dgs_ok h.lt10
theorem join_mem : ∀ (ps : List (List Nat)) (c : Nat), c ∈ joinL [124] ps → c = 124 ∨ ∃ p, p ∈ ps ∧ c ∈ p
  | [], c, h => nomatch h
  | [p], c, h => .inr ⟨p, List.mem_singleton.mpr rfl, h⟩
  | p :: q :: r, c, h => by
    have h : c ∈ p ++ ([124] ++ joinL [124] (q :: r)) := h
    rcases List.mem_append.mp h with h | h
    · exact .inr ⟨p, List.mem_cons_self .., h⟩
    · rcases List.mem_append.mp h with h | h
      · exact .inl (List.mem_singleton.mp h)
      · rcases join_mem (q :: r) c h with h | ⟨p', h1, h2⟩
        · exact .inl h
        · exact .inr ⟨p', List.mem_cons_of_mem _ h1, h2⟩
theorem w1_ok {row : List Nat} (h : Grp row) : okc (w1 row) := fun c hc => by
  rcases join_mem _ c hc with rfl | ⟨p, hp, hc⟩
  · decide
  · obtain ⟨q, hq, rfl⟩ := List.mem_map.mp hp
    exact dgs_ok (grps_lt h q hq) c hc
theorem w0_len {row : List Nat} (h : Grp row) : (w0 row).length ≤ 100 := by
  unfold w0
  rw [dgs_len]
  have := h.2.1
  omega
theorem w1_len {row : List Nat} (h : Grp row) : (w1 row).length ≤ 100 := by
  have h1 := join_one ((grps row).map dgs)
  have h2 := grps_flat h
  have h3 := h.ng_le
  have h4 := h.2.1
  rw [List.length_map, grps_len] at h1
  unfold w1
  omega
theorem parse0_w {row : List Nat} (h : Grp row) : d_parse_grouping [.str (S (w0 row))] = .ok (nL row) := by
  rw [parse0 _ (by have := w0_len h; omega)]
  unfold w0
  rw [if_pos (dgs_dgt h.lt10), und_dgs, if_pos (grpB_iff.mpr h)]
theorem parse1_w {row : List Nat} (h : Grp row) : d_parse_groups [.str (S (w1 row))] = .ok (nL row) := by
  have hg : (prt (w1 row)).all good = true := by
    rw [prt_w1 h]
    refine List.all_eq_true.mpr fun p hp => ?_
    obtain ⟨q, hq, rfl⟩ := List.mem_map.mp hp
    unfold good
    rw [dgs_dgt (grps_lt h q hq), Bool.and_true, Bool.not_eq_true', decide_eq_false_iff_not]
    intro z
    obtain ⟨g, hg, rfl⟩ := List.mem_map.mp hq
    exact h.grp_ne (List.mem_range.mp hg) (List.eq_nil_of_length_eq_zero (by rw [← dgs_len, z]; rfl))
  have eu : (prt (w1 row)).map und = grps row := by
    rw [prt_w1 h, List.map_map]
    conv => rhs; rw [← List.map_id (grps row)]
    exact List.map_congr_left fun q _ => und_dgs q
  rw [parse1_true (w1_ok h) (by have := w1_len h; omega) hg, eu, grouping_of_grps h, tryc_ok]
  simp only [bind_ok, dIs_nL, ofO_some, dBool_bool, Bool.false_eq_true, if_false, groups_of_nL h, dNe_nLL, decide_true, Bool.not_true]
theorem parse0_any {l : List Nat} (hl : l.length ≤ 1000) : d_parse_grouping [.str (S l)] = .err 3 ∨ ∃ row, Grp row ∧ d_parse_grouping [.str (S l)] = .ok (nL row) ∧ l = w0 row := by
  rw [parse0 l hl]
  cases e : l.all dgt with
  | false => exact .inl rfl
  | true =>
    rw [if_pos rfl]
    cases e2 : grpB (und l) with
    | false => exact .inl rfl
    | true => exact .inr ⟨und l, grpB_iff.mp e2, rfl, (dgs_und e).symm⟩
/-! the law's own -/
def wk (k : Nat) (row : List Nat) : List Nat := if k = 0 then w0 row else w1 row
theorem err_text : d_law_error [dExc 3] = .ok (.str "text") := by kernel_rfl
theorem parsed0 {l : List Nat} : d_law_parsed [.int 0, .str (S l)] = (R.tryc (fun (a : D) => ((a, .none) : D × D)) (fun k => ((.none, dExc k) : D × D)) (d_parse_grouping [.str (S l)])).bind fun p11 => ((R.ofO (dIs p11.2 .none)).bind fun x12 => R.ofO (dBool x12)).bind fun b17 => if b17 = true then R.ok (p11.1) else (R.ok (p11.2 :: [])).bind d_law_error := by
  have e0 : dEq (.int 0) (.int 0) = some (.bool true) := dEq_int 0 0
  simp only [d_law_parsed, e0, ofO_some, bind_ok, dBool_bool, noE_ok, if_true]
theorem parsed1 {l : List Nat} : d_law_parsed [.int 1, .str (S l)] = (R.tryc (fun (a : D) => ((a, .none) : D × D)) (fun k => ((.none, dExc k) : D × D)) (d_parse_groups [.str (S l)])).bind fun p11 => ((R.ofO (dIs p11.2 .none)).bind fun x12 => R.ofO (dBool x12)).bind fun b17 => if b17 = true then R.ok (p11.1) else (R.ok (p11.2 :: [])).bind d_law_error := by
  have e0 : dEq (.int 1) (.int 0) = some (.bool false) := dEq_int 1 0
  simp only [d_law_parsed, e0, ofO_some, bind_ok, dBool_bool, noE_ok, Bool.false_eq_true, if_false]
theorem tail_ok {r : R D} {d : D} (h : r = .ok d) : ((R.tryc (fun (a : D) => ((a, .none) : D × D)) (fun k => ((.none, dExc k) : D × D)) r).bind fun p11 => ((R.ofO (dIs p11.2 .none)).bind fun x12 => R.ofO (dBool x12)).bind fun b17 => if b17 = true then R.ok (p11.1) else (R.ok (p11.2 :: [])).bind d_law_error) = .ok d := by
  rw [h, tryc_ok]
  simp only [bind_ok, dIs_non, ofO_some, dBool_bool, if_true]
theorem tail_err {r : R D} (h : r = .err 3) : ((R.tryc (fun (a : D) => ((a, .none) : D × D)) (fun k => ((.none, dExc k) : D × D)) r).bind fun p11 => ((R.ofO (dIs p11.2 .none)).bind fun x12 => R.ofO (dBool x12)).bind fun b17 => if b17 = true then R.ok (p11.1) else (R.ok (p11.2 :: [])).bind d_law_error) = .ok (.str "text") := by
  have e : dIs (dExc 3) .none = some (.bool false) := rfl
  rw [h, tryc_err _ _ 3 (by decide)]
  simp only [bind_ok, e, ofO_some, dBool_bool, Bool.false_eq_true, if_false, err_text]
theorem parsed_any {k : Nat} (hk : k = 0 ∨ k = 1) {l : List Nat} (h : okc l) (hl : l.length ≤ 1000) : d_law_parsed [nI k, .str (S l)] = .ok (.str "text") ∨ ∃ row, Grp row ∧ d_law_parsed [nI k, .str (S l)] = .ok (nL row) ∧ l = wk k row := by
  rcases hk with rfl | rfl
  · show d_law_parsed [.int 0, .str (S l)] = _ ∨ ∃ row, Grp row ∧ d_law_parsed [.int 0, .str (S l)] = _ ∧ _
    rw [parsed0]
    rcases parse0_any hl with e | ⟨row, hr, e, z⟩
    · exact .inl (tail_err e)
    · exact .inr ⟨row, hr, tail_ok e, z⟩
  · show d_law_parsed [.int 1, .str (S l)] = _ ∨ ∃ row, Grp row ∧ d_law_parsed [.int 1, .str (S l)] = _ ∧ _
    rw [parsed1]
    rcases parse1 h hl with e | ⟨row, hr, e, z⟩
    · exact .inl (tail_err e)
    · exact .inr ⟨row, hr, tail_ok e, z⟩
theorem parsed_w {k : Nat} (hk : k = 0 ∨ k = 1) {row : List Nat} (h : Grp row) : d_law_parsed [nI k, .str (S (wk k row))] = .ok (nL row) := by
  rcases hk with rfl | rfl
  · exact parsed0.trans (tail_ok (parse0_w h))
  · exact parsed1.trans (tail_ok (parse1_w h))
theorem written_w {k : Nat} (hk : k = 0 ∨ k = 1) {row : List Nat} (h : Grp row) : d_law_written [nI k, nL row] = .ok (.str (S (wk k row))) := by
  rcases hk with rfl | rfl
  · exact written0 h
  · exact written1 h
theorem wk_ok {k : Nat} {row : List Nat} (h : Grp row) : okc (wk k row) ∧ (wk k row).length ≤ 100 := by
  unfold wk
  split
  · exact ⟨w0_ok h, w0_len h⟩
  · exact ⟨w1_ok h, w1_len h⟩
theorem e_ST : ("text" : Str) = S [116, 101, 120, 116] := by decide +kernel
theorem ok_ST : okc [116, 101, 120, 116] := by
  intro c hc
  simp only [List.mem_cons, List.not_mem_nil, or_false] at hc
  omega
theorem ne_TT : dNe (.str "text") (.str "text") = some (.bool false) := by
  rw [e_ST, dNe_S ok_ST ok_ST, decide_eq_true rfl]
  rfl
theorem ne_LT (row : List Nat) : dNe (nL row) (.str "text") = some (.bool true) := by
  have h1 : dShp (nL row) = true := shp_enc (α := List Nat) (by decide) row
  rw [e_ST]
  unfold dNe
  rw [if_pos ⟨h1, shp_S ok_ST⟩]
  simp only [PyData.eqv, Bool.not_false]
theorem ne_SS {l : List Nat} (h : okc l) : dNe (.str (S l)) (.str (S l)) = some (.bool false) := by
  rw [dNe_S h h, decide_eq_true rfl]
  rfl
theorem k12_1 {k : Nat} (hk : k = 0 ∨ k = 1) {l : List Nat} (h : okc l) (hl : l.length ≤ 1000) : l1_law (nI k) (.str (S l)) = .ok (.nx ()) := by
  rcases parsed_any hk h hl with e | ⟨row, hr, e, z⟩
  · simp only [l1_law, bind_ok, e, ne_TT, ofO_some, dBool_bool, Bool.false_eq_true, if_false]
  · simp only [l1_law, bind_ok, e, ne_LT, ofO_some, dBool_bool, if_true, written_w hk hr, ← z, ne_SS h, Bool.false_eq_true, if_false]
def txs (row : List Nat) : D := .list [.str (S (wk 0 row)), .str (S (wk 1 row))]
theorem txs_at {k : Nat} (hk : k = 0 ∨ k = 1) (row : List Nat) : dAt (txs row) (nI k) = some (.str (S (wk k row))) := by
  rcases hk with rfl | rfl <;> rfl
theorem k12_2 {k : Nat} (hk : k = 0 ∨ k = 1) (row : List Nat) : l2_law (txs row) (nI k) = .ok (.str (S (wk k row))) := by
  unfold l2_law
  rw [txs_at hk]
  rfl
theorem k12_3 {k : Nat} (hk : k = 0 ∨ k = 1) {row : List Nat} (h : Grp row) : l3_law (txs row) (nI k) (nL row) = .ok false := by
  simp only [l3_law, txs_at hk, ofO_some, bind_ok, written_w hk h, ne_SS (wk_ok h).1, dBool_bool, Bool.false_eq_true, if_false, parsed_w hk h, dNe_nL, decide_true, Bool.not_true]
theorem k12_4 : l4_law = .ok (.bool true) := by kernel_rfl
theorem k12_5 {row : List Nat} (h : Grp row) : l5_law (nL row) = .ok (txs row) := by
  simp only [l5_law, bind_ok, format0 h, format1 h]
  rfl
/-! texts cut -/
theorem cut_S {l : List Nat} (lo hi : Option Int) (h : okc l) (hl : l.length ≤ 300) : ∃ q, dCut lo hi (.str (S l)) = some (.str (S q)) ∧ okc q ∧ q.length ≤ l.length := by
  refine ⟨(l.drop (HT.sIx (S l).length 0 lo)).take (HT.sIx (S l).length (S l).length hi - HT.sIx (S l).length 0 lo), ?_, fun c hc => h c (List.mem_of_mem_drop (List.mem_of_mem_take hc)), ?_⟩
  · show (if (S l).length ≤ LIM then some (PyData.str (L2.cutS (S l) lo hi)) else none) = _
    rw [if_pos (by rw [S_len]; unfold LIM; omega)]
    rfl
  · rw [List.length_take, List.length_drop]
    omega
theorem cat_S {a b : List Nat} (ha : okc a) (hb : okc b) (hl : a.length + b.length ≤ 1000) : dAdd (.str (S a)) (.str (S b)) = some (.str (S (a ++ b))) ∧ okc (a ++ b) := by
  refine ⟨?_, fun c hc => (List.mem_append.mp hc).elim (ha c) (hb c)⟩
  show (if (S a).length + (S b).length ≤ LIM then some (PyData.str (S a ++ S b)) else none) = _
  rw [if_pos (by rw [S_len, S_len]; unfold LIM; omega), S_app]
theorem foldU {β : Type} (f : D → Option β) (s : Unit → β → WP (Stp Unit)) : ∀ (ds : List D), (∀ d, d ∈ ds → ∃ b, f d = some b ∧ ∀ (P : Stp Unit → Prop) (E : Nat → Prop), P (.nx ()) → (s () b).run P E) → ∀ (P : Stp Unit → Prop) (E : Nat → Prop), P (.nx ()) → (WP.foldS f s ds ()).run P E
  | [], _, P, E, hp => hp
  | d :: ds, hs, P, E, hp => by
    obtain ⟨b, hb, hr⟩ := hs d (List.mem_cons_self ..)
    show ((WP.opt (f d)).bind fun b => (s () b).seq fun a' => WP.foldS f s ds a').run P E
    rw [hb]
    refine hr _ _ ?_
    exact foldU f s ds (fun d hd => hs d (List.mem_cons_of_mem _ hd)) P E hp
def mks : List (List Nat) := [[48], [49], [50], [32], [124], [120], []]
theorem e_mks : ([.str "0", .str "1", .str "2", .str " ", .str "|", .str "x", .str ""] : List D) = mks.map fun l => .str (S l) := by
  have h1 : ("0" : Str) = S [48] := by decide +kernel
  have h2 : ("1" : Str) = S [49] := by decide +kernel
  have h3 : ("2" : Str) = S [50] := by decide +kernel
  have h4 : (" " : Str) = S [32] := by decide +kernel
  have h5 : ("x" : Str) = S [120] := by decide +kernel
  rw [h1, h2, h3, h4, e_S1, h5, e_S0]
  rfl
theorem mks_ok {l : List Nat} (h : l ∈ mks) : okc l ∧ l.length ≤ 1 := by
  unfold mks at h
  simp only [List.mem_cons, List.not_mem_nil, or_false] at h
  rcases h with rfl | rfl | rfl | rfl | rfl | rfl | rfl <;> refine ⟨fun c hc => ?_, by simp⟩ <;> simp only [List.mem_cons, List.not_mem_nil, or_false] at hc <;> omega
/-- one turn -/
theorem turn_run {own : List Nat} (h : okc own) (hl : own.length ≤ 100) (f1 : D → WP (Stp Unit)) {P : Stp Unit → Prop} {E : Nat → Prop} (h1 : ∀ l, okc l → l.length ≤ 1000 → (f1 (.str (S l))).run P E) :
    ((((((WP.opt (dLen ((.str (S own)) :: []))).bind fun x58 => WP.opt (dAdd x58 (.int 1))).bind fun d60 => WP.ret (d60 :: [])).bind wDraw).bind fun v_at54 => ((WP.ret ((.list ((.str "0") :: ((.str "1") :: ((.str "2") :: ((.str " ") :: ((.str "|") :: ((.str "x") :: ((.str "") :: [])))))))) :: [])).bind d_law_pick).bind fun v_mark62 => ((((((((WP.opt (dInt v_at54)).bind fun x83 => WP.opt (dCut none (some x83) (.str (S own)))).bind fun x86 => WP.opt (dAdd x86 v_mark62)).bind fun x95 => ((WP.opt (dAdd v_at54 (.int 1))).bind fun x91 => (WP.opt (dInt x91)).bind fun x92 => WP.opt (dCut (some x92) none (.str (S own)))).bind fun x96 => WP.opt (dAdd x95 x96)).bind fun d113 => (((((WP.opt (dInt v_at54)).bind fun x99 => WP.opt (dCut none (some x99) (.str (S own)))).bind fun x102 => WP.opt (dAdd x102 v_mark62)).bind fun x109 => ((WP.opt (dInt v_at54)).bind fun x106 => WP.opt (dCut (some x106) none (.str (S own)))).bind fun x110 => WP.opt (dAdd x109 x110)).bind fun d111 => WP.ret (d111 :: [])).bind fun ds114 => WP.ret (d113 :: ds114)).bind fun ds115 => WP.ret (.list ds115)).bind fun d116 => WP.ret (d116 :: [])).bind d_law_pick).bind fun v_other80 => f1 v_other80)).run P E := by
  have e1 : dLen ((.str (S own)) :: []) = some (nI own.length) := by
    show (if (S own).length ≤ LIM then some (PyData.int ((S own).length : Nat)) else none) = _
    rw [if_pos (by rw [S_len]; unfold LIM; omega), S_len]
  have e2 : dAdd (nI own.length) (.int 1) = some (nI (own.length + 1)) := dAdd_nat own.length 1
  rw [e1, opt_some, ret_bind, e2, opt_some, ret_bind, run_bind]
  show (wDraw [nI (own.length + 1)]).run _ _
  refine wdraw_nat (by omega) fun at_ hat => ?_
  have em := e_mks
  rw [show ((.list ((.str "0") :: ((.str "1") :: ((.str "2") :: ((.str " ") :: ((.str "|") :: ((.str "x") :: ((.str "") :: []))))))) : D)) = .list (mks.map fun l => .str (S l)) from congrArg PyData.list em]
  refine pickB (xs := mks) (e := fun l => .str (S l)) (by decide) fun mk hmk => ?_
  obtain ⟨ok1, l1⟩ := mks_ok hmk
  have d0 : dInt (nI at_) = some (at_ : Int) := rfl
  have d1 : dAdd (nI at_) (.int 1) = some (nI (at_ + 1)) := dAdd_nat at_ 1
  have d2 : dInt (nI (at_ + 1)) = some ((at_ + 1 : Nat) : Int) := rfl
  obtain ⟨q1, c1, o1, z1⟩ := cut_S none (some (at_ : Int)) h (by omega)
  obtain ⟨q2, c2, o2, z2⟩ := cut_S (some ((at_ + 1 : Nat) : Int)) none h (by omega)
  obtain ⟨q3, c3, o3, z3⟩ := cut_S (some (at_ : Int)) none h (by omega)
  obtain ⟨a1, p1⟩ := cat_S o1 ok1 (by omega)
  obtain ⟨a2, p2⟩ := cat_S p1 o2 (by rw [List.length_append]; omega)
  obtain ⟨a3, p3⟩ := cat_S p1 o3 (by rw [List.length_append]; omega)
  rw [d0, opt_some, ret_bind, c1, opt_some, ret_bind, a1, opt_some, ret_bind, d1, opt_some, ret_bind, d2, opt_some, ret_bind, c2, opt_some, ret_bind, a2, opt_some, ret_bind, ret_bind, ret_bind, c3, opt_some, ret_bind, a3, opt_some, ret_bind, ret_bind, ret_bind, ret_bind]
  refine pickB (xs := [q1 ++ mk ++ q2, q1 ++ mk ++ q3]) (e := fun l => .str (S l)) (by simp) fun l hl' => ?_
  simp only [List.mem_cons, List.not_mem_nil, or_false] at hl'
  rcases hl' with rfl | rfl
  · exact h1 _ p2 (by rw [List.length_append, List.length_append]; omega)
  · exact h1 _ p3 (by rw [List.length_append, List.length_append]; omega)
theorem hmX : ∃ m : WP D, m = w_law ∧ m.run (fun d => d = .bool true) (fun _ => False) := by
  refine ⟨w_law, rfl, ?_⟩
  have h1 := @k12_1
  have h2 := @k12_2
  have h3 := @k12_3
  have h4 := @k12_4
  have h5 := @k12_5
  have e10 : dRange1 ((.int 10) :: []) = some (dRng 0 10) := by kernel_rfl
  unfold w_law
  generalize l1_law = f1 at h1 ⊢
  generalize l2_law = f2 at h2 ⊢
  generalize l3_law = f3 at h3 ⊢
  generalize l4_law = f4 at h4 ⊢
  generalize l5_law = f5 at h5 ⊢
  rw [run_bind, run_bind, run_bind]
  refine drawPlus 1 7 (by decide) fun s hs => ?_
  have n1 : 1 ≤ 1 + s := by omega
  have n2 : 1 + s ≤ 7 := by omega
  generalize 1 + s = n at n1 n2
  show (d_law_grouping [nI n]).run _ _
  refine law_grouping_run n1 n2 fun row hr hn => ?_
  refine lstp _ (h5 hr) ?_
  rw [WP.seqE, run_bind, run_bind]
  refine optR _ rfl ?_
  refine foldU _ _ _ (fun d hd => ?_) _ _ (liftR _ h4 rfl)
  have hk : ∃ k : Nat, d = nI k ∧ (k = 0 ∨ k = 1) := by
    simp only [List.mem_cons, List.not_mem_nil, or_false] at hd
    rcases hd with rfl | rfl
    · exact ⟨0, rfl, .inl rfl⟩
    · exact ⟨1, rfl, .inr rfl⟩
  obtain ⟨k, rfl, hk⟩ := hk
  refine ⟨_, rfl, fun P E hP => ?_⟩
  refine lchk (h3 hk hr) ?_
  rw [WP.seq, run_bind, run_bind]
  refine optR _ e10 ?_
  refine foldU _ _ _ (fun d hd => ⟨_, rfl, fun P E hP => ?_⟩) _ _ hP
  refine lstp _ (h2 hk row) ?_
  obtain ⟨o, l⟩ := wk_ok (k := k) hr
  exact turn_run o l (fun v => WP.lift (f1 (nI k) v)) fun q oq lq => liftR _ (h1 hk oq lq) hP
end GM
namespace GT
open PySem PySem.Spec PyProof.Rows L2 GA GD
def topS (i : Nat) : Stmt := PySem.Challenge.pw_groupsapart_k12_whole_texts.main.body.getD i (.Pass ⟨0, 0, 0, 0⟩)
abbrev FnP (W : PySem.W.Frag) (x : Str) (st : Stmt) (f : Addr) (fd : FuncData) : Prop := FunD W x x (defArgs st) (defBody st) (defScope st) [] [] f fd
abbrev s__law_start : Stmt := topS 23
abbrev s__law_draw : Stmt := topS 24
abbrev s__law_pick : Stmt := topS 25
abbrev s__law_numbered : Stmt := topS 27
abbrev s__law_grouping : Stmt := topS 28
abbrev s__law_error : Stmt := topS 26
abbrev s_check_text : Stmt := topS 17
abbrev s_is_int : Stmt := topS 8
abbrev s_is_grouping : Stmt := topS 9
abbrev s_parse_grouping : Stmt := topS 19
abbrev s_numbered : Stmt := topS 12
abbrev s_grouping_of : Stmt := topS 14
abbrev s_groups_of : Stmt := topS 13
abbrev s_parse_groups : Stmt := topS 21
abbrev s__law_parsed : Stmt := topS 31
abbrev s__law_rejected : Stmt := topS 32
abbrev s_check_grouping : Stmt := topS 10
abbrev s_format_grouping : Stmt := topS 18
abbrev s_format_groups : Stmt := topS 20
abbrev s__law_groups : Stmt := topS 29
abbrev s__law_written : Stmt := topS 30
abbrev s_law : Stmt := topS 33
/-- what the top leaves -/
structure Tx (W : PySem.W.Frag) (mg : Str → Option Value) (K : Nat → Addr) (fds : Nat → FuncData) : Prop where
  g_BadNumber : mg "BadNumber" = some (.ref (K 1))
  g_BadPairs : mg "BadPairs" = some (.ref (K 2))
  g_GroupError : mg "GroupError" = some (.ref (K 5))
  g_NotFound : mg "NotFound" = some (.ref (K 4))
  c_DIGITS : ∃ t, mg "DIGITS" = some (.str "0123456789" t)
  c_MOST_THINGS : ∃ t, mg "MOST_THINGS" = some (.int 7 t)
  g_BadGrouping : mg "BadGrouping" = some (.ref (K 0))
  x_BadGrouping : PySem.W.excIn W (K 0) He.veBase "ValueError.__new__" = true ∧ PySem.W.keepIn W (.ref (K 0)) = true ∧ PySem.W.subIn W (.ref (K 0)) (.type "BaseException") = some true ∧ PySem.W.typeIn W (.ref (K 0)) = some (.type "type")
  g_BadText : mg "BadText" = some (.ref (K 3))
  x_BadText : PySem.W.excIn W (K 3) He.veBase "ValueError.__new__" = true ∧ PySem.W.keepIn W (.ref (K 3)) = true ∧ PySem.W.subIn W (.ref (K 3)) (.type "BaseException") = some true ∧ PySem.W.typeIn W (.ref (K 3)) = some (.type "type")
  ex : ExT W K
  z_ValueError : mg "ValueError" = none
  z_all : mg "all" = none
  z_bool : mg "bool" = none
  z_enumerate : mg "enumerate" = none
  z_int : mg "int" = none
  z_isinstance : mg "isinstance" = none
  z_len : mg "len" = none
  z_list : mg "list" = none
  z_max : mg "max" = none
  z_range : mg "range" = none
  z_sorted : mg "sorted" = none
  z_str : mg "str" = none
  F__law_start : FnP W "_law_start" s__law_start (He.ga W "_law_start") (fds 23)
  g__law_start : mg "_law_start" = some (.ref (He.ga W "_law_start"))
  k__law_start : PySem.W.keepIn W (.ref (He.ga W "_law_start")) = true
  F__law_draw : FnP W "_law_draw" s__law_draw (He.ga W "_law_draw") (fds 24)
  g__law_draw : mg "_law_draw" = some (.ref (He.ga W "_law_draw"))
  k__law_draw : PySem.W.keepIn W (.ref (He.ga W "_law_draw")) = true
  F__law_pick : FnP W "_law_pick" s__law_pick (He.ga W "_law_pick") (fds 25)
  g__law_pick : mg "_law_pick" = some (.ref (He.ga W "_law_pick"))
  k__law_pick : PySem.W.keepIn W (.ref (He.ga W "_law_pick")) = true
  F__law_numbered : FnP W "_law_numbered" s__law_numbered (He.ga W "_law_numbered") (fds 27)
  g__law_numbered : mg "_law_numbered" = some (.ref (He.ga W "_law_numbered"))
  k__law_numbered : PySem.W.keepIn W (.ref (He.ga W "_law_numbered")) = true
  F__law_grouping : FnP W "_law_grouping" s__law_grouping (He.ga W "_law_grouping") (fds 28)
  g__law_grouping : mg "_law_grouping" = some (.ref (He.ga W "_law_grouping"))
  k__law_grouping : PySem.W.keepIn W (.ref (He.ga W "_law_grouping")) = true
  F__law_error : FnP W "_law_error" s__law_error (He.ga W "_law_error") (fds 26)
  g__law_error : mg "_law_error" = some (.ref (He.ga W "_law_error"))
  k__law_error : PySem.W.keepIn W (.ref (He.ga W "_law_error")) = true
  F_check_text : FnP W "check_text" s_check_text (He.ga W "check_text") (fds 17)
  g_check_text : mg "check_text" = some (.ref (He.ga W "check_text"))
  k_check_text : PySem.W.keepIn W (.ref (He.ga W "check_text")) = true
  F_is_int : FnP W "is_int" s_is_int (He.ga W "is_int") (fds 8)
  g_is_int : mg "is_int" = some (.ref (He.ga W "is_int"))
  k_is_int : PySem.W.keepIn W (.ref (He.ga W "is_int")) = true
  F_is_grouping : FnP W "is_grouping" s_is_grouping (He.ga W "is_grouping") (fds 9)
  g_is_grouping : mg "is_grouping" = some (.ref (He.ga W "is_grouping"))
  k_is_grouping : PySem.W.keepIn W (.ref (He.ga W "is_grouping")) = true
  F_parse_grouping : FnP W "parse_grouping" s_parse_grouping (He.ga W "parse_grouping") (fds 19)
  g_parse_grouping : mg "parse_grouping" = some (.ref (He.ga W "parse_grouping"))
  k_parse_grouping : PySem.W.keepIn W (.ref (He.ga W "parse_grouping")) = true
  F_numbered : FnP W "numbered" s_numbered (He.ga W "numbered") (fds 12)
  g_numbered : mg "numbered" = some (.ref (He.ga W "numbered"))
  k_numbered : PySem.W.keepIn W (.ref (He.ga W "numbered")) = true
  F_grouping_of : FnP W "grouping_of" s_grouping_of (He.ga W "grouping_of") (fds 14)
  g_grouping_of : mg "grouping_of" = some (.ref (He.ga W "grouping_of"))
  k_grouping_of : PySem.W.keepIn W (.ref (He.ga W "grouping_of")) = true
  F_groups_of : FnP W "groups_of" s_groups_of (He.ga W "groups_of") (fds 13)
  g_groups_of : mg "groups_of" = some (.ref (He.ga W "groups_of"))
  k_groups_of : PySem.W.keepIn W (.ref (He.ga W "groups_of")) = true
  F_parse_groups : FnP W "parse_groups" s_parse_groups (He.ga W "parse_groups") (fds 21)
  g_parse_groups : mg "parse_groups" = some (.ref (He.ga W "parse_groups"))
  k_parse_groups : PySem.W.keepIn W (.ref (He.ga W "parse_groups")) = true
  F__law_parsed : FnP W "_law_parsed" s__law_parsed (He.ga W "_law_parsed") (fds 31)
  g__law_parsed : mg "_law_parsed" = some (.ref (He.ga W "_law_parsed"))
  k__law_parsed : PySem.W.keepIn W (.ref (He.ga W "_law_parsed")) = true
  F__law_rejected : FnP W "_law_rejected" s__law_rejected (He.ga W "_law_rejected") (fds 32)
  g__law_rejected : mg "_law_rejected" = some (.ref (He.ga W "_law_rejected"))
  k__law_rejected : PySem.W.keepIn W (.ref (He.ga W "_law_rejected")) = true
  F_check_grouping : FnP W "check_grouping" s_check_grouping (He.ga W "check_grouping") (fds 10)
  g_check_grouping : mg "check_grouping" = some (.ref (He.ga W "check_grouping"))
  k_check_grouping : PySem.W.keepIn W (.ref (He.ga W "check_grouping")) = true
  F_format_grouping : FnP W "format_grouping" s_format_grouping (He.ga W "format_grouping") (fds 18)
  g_format_grouping : mg "format_grouping" = some (.ref (He.ga W "format_grouping"))
  k_format_grouping : PySem.W.keepIn W (.ref (He.ga W "format_grouping")) = true
  F_format_groups : FnP W "format_groups" s_format_groups (He.ga W "format_groups") (fds 20)
  g_format_groups : mg "format_groups" = some (.ref (He.ga W "format_groups"))
  k_format_groups : PySem.W.keepIn W (.ref (He.ga W "format_groups")) = true
  F__law_groups : FnP W "_law_groups" s__law_groups (He.ga W "_law_groups") (fds 29)
  g__law_groups : mg "_law_groups" = some (.ref (He.ga W "_law_groups"))
  k__law_groups : PySem.W.keepIn W (.ref (He.ga W "_law_groups")) = true
  F__law_written : FnP W "_law_written" s__law_written (He.ga W "_law_written") (fds 30)
  g__law_written : mg "_law_written" = some (.ref (He.ga W "_law_written"))
  k__law_written : PySem.W.keepIn W (.ref (He.ga W "_law_written")) = true
  F_law : FnP W "law" s_law (He.ga W "law") (fds 33)
  g_law : mg "law" = some (.ref (He.ga W "law"))
  k_law : PySem.W.keepIn W (.ref (He.ga W "law")) = true
section
variable {P : Program} {w : World} {W : PySem.W.Frag} {mg : Str → Option Value} {base : Heap} {K : Nat → Addr} {fds : Nat → FuncData}
theorem sc__law_start : FnScope ["script"] ["script"] (defScope s__law_start) := ⟨rfl, rfl, rfl, by decide +kernel, rfl, by decide +kernel, by decide +kernel⟩
theorem b__law_start (T : Tx W mg K fds) : Binds W (fds 23) ["script"] [] := T.F__law_start.bindsN fun _ _ _ _ _ _ us hl => match us, hl with | [_], _ => rfl
theorem ok__law_start (T : Tx W mg K fds) : FnOk P w W mg base (CX P w) 1 (He.ga W "_law_start") (fds 23) ["script"] (spStart W) := by
  refine T.F__law_start.ok sc__law_start (fun vs H Q E h => ?_) (fun cdv A outer s H vs Q E hr h => ?_)
  · obtain ⟨a, ns, rfl, _⟩ := h
    rfl
  · obtain ⟨a, ns, rfl, hS, hl, q⟩ := h
    refine ⟨_, pss_one (ps_ret (pe_lst (pa_cons (pe_ifExp (pt_cmpR (op_neD hr.units) (pv 0) (pe_lst pa_nil) (nomark _)) (pe_callTy call_list_of (by rfl) T.z_list bt_list (pa_cons (pv 0) pa_nil)) (pe_lst (pa_cons pe_int pa_nil))) (pa_cons pe_int pa_nil)))), ?_⟩
    refine ⟨.ref a, rfl, Nat.zero_le _, fun e ne => ?_⟩
    have eh : Ex H (upd H e (.lst [])) := Evl.Ex.new ne
    have hD' : Dp W (upd H e (.lst [])) (.ref a) (.list (ns.map PyData.int)) := .lst (Evl.ex_l eh hS) (dp_ints ns)
    refine ⟨_, _, hD', .lst (.inl (.inl upd_same)) .nil, shp_ints ns, shp_ints [], _, rfl, ?_⟩
    have hS' : SqL W (upd H e (.lst [])) a (ns.map V.int) := Evl.ex_l eh hS
    have two : ∀ (l : Addr) (ms : List Int), (upd H e (.lst [])) l = none → ms ≠ [] → 2 ≤ sizeLine ∧ ∀ p, (upd (upd H e (.lst [])) l (.lst (ms.map V.int))) p = none → Q (.ref p) (upd (upd (upd H e (.lst [])) l (.lst (ms.map V.int))) p (.lst [.ref l, .int 0])) := fun l ms nl hm => by
      refine ⟨by rw [sizeLine_eq]; decide, fun p np => ?_⟩
      have e1 : Ex (upd H e (.lst [])) (upd (upd H e (.lst [])) l (.lst (ms.map V.int))) := Evl.Ex.new nl
      have e2 : Ex (upd (upd H e (.lst [])) l (.lst (ms.map V.int))) (upd (upd (upd H e (.lst [])) l (.lst (ms.map V.int))) p (.lst [.ref l, .int 0])) := Evl.Ex.new np
      have npl : p ≠ l := fun z => by subst z; rw [upd_same] at np; cases np
      refine q p l _ (exT eh (exT e1 e2)) (ex_none (exT eh e1) np) (ex_none eh nl) ⟨npl, ms, 0, upd_same, ?_, hm⟩
      rw [upd_ne npl.symm, upd_same]
    cases ns with
    | nil =>
      have en : (!PyData.eqv (.list (([] : List Int).map PyData.int)) (.list [])) = false := by simp [PyData.eqv, PyData.eqvAll]
      rw [en]
      refine ⟨by show 1 ≤ sizeLine; rw [sizeLine_eq]; decide, fun l nl => ?_⟩
      exact two l [0] nl (by simp)
    | cons n ns =>
      have en : (!PyData.eqv (.list ((n :: ns).map PyData.int)) (.list [])) = true := by simp [PyData.eqv, PyData.eqvAll]
      rw [en]
      refine ⟨_, rfl, a, _, rfl, .inl hS', fun l nl => ?_⟩
      exact two l (n :: ns) nl (by simp)

theorem sc__law_draw : FnScope ["draws", "limit", "numbers", "at", "cell", "mixed"] ["draws", "limit"] (defScope s__law_draw) := ⟨rfl, rfl, rfl, by decide +kernel, rfl, by decide +kernel, by decide +kernel⟩
theorem b__law_draw (T : Tx W mg K fds) : Binds W (fds 24) ["draws", "limit"] [] := T.F__law_draw.bindsN fun _ _ _ _ _ _ us hl => match us, hl with | [_, _], _ => rfl
theorem ok__law_draw (T : Tx W mg K fds) : FnOk P w W mg base (CX P w) 1 (He.ga W "_law_draw") (fds 24) ["draws", "limit"] (spD K 1 wDraw) := by
  refine T.F__law_draw.ok sc__law_draw (fun vs H Q E h => ?_) (fun cdv A outer s H vs Q E hr h => ?_)
  · obtain ⟨F, ds, a, b, vs', rfl, _, _, _, _, t, e, _⟩ := h
    rw [List.length_cons, dps_len t, e]
    rfl
  · obtain ⟨F0, ds, a, b, vs', rfl, ⟨nab, ns, n, ha, hb, hne⟩, fa, fb, e, t, hl, r⟩ := h
    obtain ⟨lim, rfl, ⟨l0, l1⟩, r⟩ := wDraw_int r
    cases t with
    | cons t1 t2 =>
      cases t1
      cases t2
      refine ⟨_, pss_cons (ps_set (i := 2) sc__law_draw.nd rfl (.inl rfl) (pe_ix ix_list (pv 0) pe_int (fun _ _ => rfl)))
        (pss_cons (ps_asg (pe_op op_add (pe_ix ix_list (pv 0) pe_int (fun _ _ => rfl)) pe_int) (pg_sub (pv 0) pe_int set_list))
        (pss_cons (ps_set (i := 3) sc__law_draw.nd rfl (.inl rfl) (pe_op op_mod (pe_ix ix_list (pv 0) pe_int (fun _ _ => rfl)) (pe_callB call_len_seq (by rfl) T.z_len bt_len (pa_cons (pv 2) pa_nil))))
        (pss_cons (ps_set (i := 4) sc__law_draw.nd rfl (.inl rfl) (pe_ix ix_list (pv 2) (pv 3) (fun _ _ => rfl)))
        (pss_cons (ps_if (pt_cmpR op_ge (pv 4) pe_int (nomark _)) (pss_cons (ps_asg (pe_op op_fdiv (pv 4) (pv 1)) (pg_sub (pv 2) (pv 3) set_list)) (pss_one (ps_ret (pe_op op_mod (pv 4) (pv 1))))) pss_nil)
        (pss_cons (ps_set (i := 5) sc__law_draw.nd rfl (.inl rfl) (pe_op op_mod (pe_op op_add (pv 4) (pe_op op_mul pe_int (pe_ix ix_list (pv 0) pe_int (fun _ _ => rfl)))) pe_int))
        (pss_cons (ps_set (i := 5) sc__law_draw.nd rfl (.inl rfl) (pe_op op_mod (pe_op op_pow (pv 5) pe_int) pe_int))
        (pss_one (ps_ret (pe_op op_mod (pe_op op_fdiv (pe_op op_mod (pe_op op_add (pe_op op_mul (pe_op op_fdiv (pv 5) pe_int) pe_int) (pv 5)) pe_int) pe_int) (pv 1)))))))))), ?_⟩
      have at0 : ∀ (x : V) (xs : List V), atI (x :: xs) 0 = some x := fun x xs => atI_nat (j := 0) rfl
      have at1 : ∀ (x y : V) (xs : List V), atI (x :: y :: xs) 1 = some y := fun x y xs => atI_nat (j := 1) rfl
      have ix1 : ∀ x y : V, ixN [x, y].length 1 = some 1 := fun x y => rfl
      obtain ⟨j, cell, hj, hc, hjl⟩ := mod_at (n + 1) hne
      have nba : b ≠ a := fun z => nab z.symm
      -- numbers = draws[0]
      refine ⟨.ref a, rfl, a, _, 0, .ref b, rfl, rfl, .inl (.inl ha), at0 _ _, ?_⟩
      -- draws[1] = draws[1] + 1
      refine ⟨.ref a, rfl, a, _, 1, .int n, rfl, rfl, .inl (.inl ha), at1 _ _ _, n, 1, rfl, rfl, .ref a, rfl, a, _, 1, 1, rfl, rfl, ha, rfl, ?_⟩
      have ha1 : (upd H a (.lst [.ref b, .int (n + 1)])) a = some (.lst [.ref b, .int (n + 1)]) := upd_same
      have hb1 : (upd H a (.lst [.ref b, .int (n + 1)])) b = some (.lst (ns.map V.int)) := by rw [upd_ne nba]; exact hb
      -- at = draws[1] % len(numbers)
      refine ⟨.ref a, rfl, a, _, 1, .int (n + 1), rfl, rfl, .inl (.inl ha1), at1 _ _ _, .ref b, rfl, b, _, rfl, .inl (.inl (.inl hb1)), n + 1, _, rfl, rfl, ?_, ?_⟩
      · rw [List.length_map]
        have : 0 < ns.length := List.length_pos_iff.mpr hne
        omega
      -- cell = numbers[at]
      refine ⟨.ref b, rfl, .int ((n + 1) % ((ns.map V.int).length : Int)), rfl, b, _, _, .int cell, rfl, rfl, .inl (.inl hb1), ?_, ?_⟩
      · rw [hj]
        exact atI_nat (by rw [List.getElem?_map, hc]; rfl)
      have keep : ∀ H2 : Hp, (∀ p, p ≠ a → p ≠ b → H2 p = H p) → DrOk H2 a b → ∀ x : Int, 0 ≤ x → x < lim → Q (.int x) H2 := fun H2 hk dk x x0 x1 =>
        r x x0 x1 (.int x) F0 H2 (fun p o h n1 n2 => by rw [hk p n1 n2]; exact h) dk (exR F0) (fun p o h => by
          have n1 : p ≠ a := fun z => by subst z; rw [fa] at h; cases h
          have n2 : p ≠ b := fun z => by subst z; rw [fb] at h; cases h
          rw [hk p n1 n2]; exact e p o h) (fun p o h => .inl h) (.int x)
      refine ⟨.int cell, rfl, cell, _, rfl, rfl, _, rfl, ite2 (fun _ => ?_) (fun _ => ?_)⟩
      · -- numbers[at] = cell // limit; return cell % limit
        refine ⟨.int cell, rfl, .int lim, rfl, cell, lim, rfl, rfl, ⟨l0, l1⟩, .ref b, rfl, .int ((n + 1) % ((ns.map V.int).length : Int)), rfl, b, _, _, j, rfl, rfl, hb1, ?_, ?_⟩
        · rw [hj]
          unfold ixN
          rw [if_pos (by omega), if_pos (by rw [List.length_map]; omega)]
          simp
        · refine ⟨.int cell, rfl, .int lim, rfl, cell, lim, rfl, rfl, l0, ?_⟩
          refine keep _ (fun p n1 n2 => by rw [upd_ne n2, upd_ne n1]) ⟨nab, ns.set j (cell / lim), n + 1, by rw [upd_ne nab]; exact upd_same, by rw [upd_same, List.map_set], ?_⟩ _ (Int.emod_nonneg _ (by omega)) (Int.emod_lt_of_pos _ l0)
          intro z
          have := congrArg List.length z
          rw [List.length_set] at this
          exact hne (List.eq_nil_of_length_eq_zero this)
      · -- the hash
        refine ⟨.int cell, rfl, .ref a, rfl, a, _, 1, .int (n + 1), rfl, rfl, .inl (.inl ha1), at1 _ _ _, 104729, n + 1, rfl, rfl, .inl ⟨by decide, by decide⟩, cell, _, rfl, rfl, _, _, rfl, rfl, (show (0 : Int) < 4294967291 by decide), ?_⟩
        have m1 : 0 ≤ (cell + 104729 * (n + 1)) % 4294967291 := Int.emod_nonneg _ (by decide)
        have m2 : (cell + 104729 * (n + 1)) % 4294967291 < 4294967291 := Int.emod_lt_of_pos _ (by decide)
        refine ⟨_, rfl, _, 5, rfl, rfl, ⟨by decide, by decide, ?_⟩, _, _, rfl, rfl, (show (0 : Int) < 4294967279 by decide), ?_⟩
        · have : ((cell + 104729 * (n + 1)) % 4294967291).natAbs < 4294967291 := by omega
          exact Nat.lt_trans this (by decide)
        refine ⟨_, rfl, _, 64, rfl, rfl, ⟨by decide, by decide⟩, _, 69621, rfl, rfl, .inr ⟨by decide, by decide⟩, _, rfl, _, _, rfl, rfl, _, _, rfl, rfl, (show (0 : Int) < 4294967231 by decide), _, 8, rfl, rfl, ⟨by decide, by decide⟩, .int lim, rfl, _, lim, rfl, rfl, l0, ?_⟩
        exact keep _ (fun p n1 n2 => by rw [upd_ne n1]) ⟨nab, ns, n + 1, ha1, hb1, hne⟩ _ (Int.emod_nonneg _ (by omega)) (Int.emod_lt_of_pos _ l0)

theorem sc__law_pick : FnScope ["draws", "choices"] ["draws", "choices"] (defScope s__law_pick) := ⟨rfl, rfl, rfl, by decide +kernel, rfl, by decide +kernel, by decide +kernel⟩
theorem b__law_pick (T : Tx W mg K fds) : Binds W (fds 25) ["draws", "choices"] [] := T.F__law_pick.bindsN fun _ _ _ _ _ _ us hl => match us, hl with | [_, _], _ => rfl
theorem ok__law_pick (T : Tx W mg K fds) : FnOk P w W mg base (CX P w) 2 (He.ga W "_law_pick") (fds 25) ["draws", "choices"] (spD K 1 d_law_pick) := by
  refine fn_D T.F__law_pick sc__law_pick rfl fun cdv A outer s H E c a b ds dr hr hl => ?_
  match ds, hl with
  | [v_choices], _ =>
    show PSs _ _ (tE K c E [.val (.ref a), .imm v_choices] _)
    refine tE_eq (s_ret (e_ix (ix_list.or ix_tup) od_at (e_rd (e_var 1 rfl (.inl rfl) rfl)) (e_rd (e_callD 0 dr (ok__law_draw T) (hr.mono (by decide)) rfl T.g__law_draw T.k__law_draw (b__law_draw T) (passX (takes_of rfl rfl rfl rfl)) rfl (.inl rfl) rfl (l_cons (e_callB call_len cd_len rfl T.z_len bt_len (r_cons (e_rd (e_var 1 rfl (.inl rfl) rfl)) (r_nil))) (l_nil)))) (fun _ _ => rfl))) ?_
    simp only [d_law_pick, WP.bind_ret, WP.lift_bind, WP.lift_ite, WP.lift_ok, WP.lift_comp, WP.lift_fold, WP.lift_foldS, WP.lift_whl, WP.lift_seq, WP.lift_seqE, WP.lift_noE, WP.noE_ret, WP.lift_tryc, WP.lift_compV]
theorem sc__law_numbered : FnScope ["labels", "found", "k", "first"] ["labels"] (defScope s__law_numbered) := ⟨rfl, rfl, rfl, by decide +kernel, rfl, by decide +kernel, by decide +kernel⟩
theorem b__law_numbered (T : Tx W mg K fds) : Binds W (fds 27) ["labels"] [] := T.F__law_numbered.bindsN fun _ _ _ _ _ _ us hl => match us, hl with | [_], _ => rfl
theorem ok__law_numbered (T : Tx W mg K fds) : FnOk P w W mg base (CX P w) 1 (He.ga W "_law_numbered") (fds 27) ["labels"] (spW K 1 fun ds => .lift (d_law_numbered ds)) := by
  refine fn_W T.F__law_numbered sc__law_numbered fun cdv A outer s H E c ds hr hl => ?_
  match ds, hl with
  | [v_labels], _ =>
    show PSs _ _ (tE K c E [.imm v_labels, .non, .non, .non] _)
    refine tE_eq (s_X (s_asgO 1 sc__law_numbered.nd rfl (.inl rfl) (o_list (l_nil))) (fun v_found1 => s_X (s_for (Ga := fun (p2 : List D) => [.imm (v_labels), own K (p2), .non, .non]) (a0 := v_found1) (passes_of rfl) rfl (i_range1 rfl T.z_range (r_cons (e_rd (e_callB call_len cd_len rfl T.z_len bt_len (r_cons (e_rd (e_var 0 rfl (.inl rfl) rfl)) (r_nil)))) (r_nil))) (Le.refl _) (fun _ => g_name 2 sc__law_numbered.nd rfl (.inl rfl)) (fun p2 a9 => s_XX (s_asg 3 sc__law_numbered.nd rfl (.inl rfl) (e_mtL PySem.F.slot_list_index PySem.F.type_list_index (mt_indexD (hu65 hr)) md_index (e_rd (e_var 0 rfl (.inl rfl) rfl)) (e_rd (e_ix (ix_list.or ix_tup) od_at (e_rd (e_var 0 rfl (.inl rfl) rfl)) (e_rd (e_var 2 rfl (.inl rfl) rfl)) (fun _ _ => rfl))))) (fun v_first10 => s_XX (s_app 1 rfl (.inl rfl) rfl (e_if (q_cmp op_lt od_lt (e_rd (e_var 3 rfl (.inl rfl) rfl)) (e_rd (e_var 2 rfl (.inl rfl) rfl)) (nomark _)) (e_ix (ix_list.or ix_tup) od_at (e_own 1 rfl (.inl rfl) rfl) (e_rd (e_var 3 rfl (.inl rfl) rfl)) (fun _ _ => rfl)) (e_op op_addAll od_add (e_rd (e_callB (cr_maxAll rfl) cd_max rfl T.z_max bt_max (r_cons (e_rd (e_op op_addAll od_add (e_rd (e_frz (o_list (l_cons (e_op op_sub od_sub (e_rd (e_int)) (e_rd (e_int))) (l_nil))))) (e_own 1 rfl (.inl rfl) rfl))) (r_nil)))) (e_rd (e_int))))) (fun v_found34 => s_nil (a := v_found34) (Le.keep (Le.keep (Le.drop (Le.drop Le.nil)))))))) (fun p2 => s_frzE 1 rfl (s_ret (e_var 1 rfl (.inl rfl) rfl))))) ?_
    simp only [d_law_numbered, WP.bind_ret, WP.lift_bind, WP.lift_ite, WP.lift_ok, WP.lift_comp, WP.lift_fold, WP.lift_foldS, WP.lift_whl, WP.lift_seq, WP.lift_seqE, WP.lift_noE, WP.noE_ret, WP.lift_tryc, WP.lift_compV]
theorem sc__law_grouping : FnScope ["draws", "size", "wide", "k"] ["draws", "size"] (defScope s__law_grouping) := ⟨rfl, rfl, rfl, by decide +kernel, rfl, by decide +kernel, by decide +kernel⟩
theorem b__law_grouping (T : Tx W mg K fds) : Binds W (fds 28) ["draws", "size"] [] := T.F__law_grouping.bindsN fun _ _ _ _ _ _ us hl => match us, hl with | [_, _], _ => rfl
theorem ok__law_grouping (T : Tx W mg K fds) : FnOk P w W mg base (CX P w) 3 (He.ga W "_law_grouping") (fds 28) ["draws", "size"] (spD K 1 d_law_grouping) := by
  refine fn_D T.F__law_grouping sc__law_grouping rfl fun cdv A outer s H E c a b ds dr hr hl => ?_
  match ds, hl with
  | [v_size], _ =>
    show PSs _ _ (tE K c E [.val (.ref a), .imm v_size, .non, .non] _)
    refine tE_eq (s_X (s_asg 2 sc__law_grouping.nd rfl (.inr rfl) (e_callD 0 dr (ok__law_pick T) (hr.mono (by decide)) rfl T.g__law_pick T.k__law_pick (b__law_pick T) (passX (takes_of rfl rfl rfl rfl)) rfl (.inr (.inl rfl)) rfl (l_cons (e_frz (o_list (l_cons (e_int) (l_cons (e_int) (l_cons (e_int) (l_nil)))))) (l_nil)))) (fun v_wide1 => s_ret (e_call (ok__law_numbered T) (hr.mono (by decide)) rfl T.g__law_numbered T.k__law_numbered (b__law_numbered T) (passX (takes_of rfl rfl rfl rfl)) (l_cons (e_frz (o_lc0 (own := [("k", 3)]) rfl sc__law_grouping.nd (j_of (i_range1 rfl T.z_range (r_cons (e_rd (e_var 1 rfl (.inl rfl) rfl)) (r_nil)))) (by kernel_rfl) (fun _ _ _ _ _ => g_name 3 sc__law_grouping.nd rfl (.inl rfl)) (fun _ _ _ _ _ a14 => e_callD 0 dr (ok__law_draw T) (hr.mono (by decide)) rfl T.g__law_draw T.k__law_draw (b__law_draw T) passL rfl (.inr (.inl rfl)) rfl (l_cons (e_var 2 rfl (.inr (.inl rfl)) rfl) (l_nil))))) (l_nil))))) ?_
    simp only [d_law_grouping, WP.bind_ret, WP.lift_bind, WP.lift_ite, WP.lift_ok, WP.lift_comp, WP.lift_fold, WP.lift_foldS, WP.lift_whl, WP.lift_seq, WP.lift_seqE, WP.lift_noE, WP.noE_ret, WP.lift_tryc, WP.lift_compV]
theorem sc__law_error : FnScope ["caught", "kinds"] ["caught"] (defScope s__law_error) := ⟨rfl, rfl, rfl, by decide +kernel, rfl, by decide +kernel, by decide +kernel⟩
theorem b__law_error (T : Tx W mg K fds) : Binds W (fds 26) ["caught"] [] := T.F__law_error.bindsN fun _ _ _ _ _ _ us hl => match us, hl with | [_], _ => rfl
theorem ok__law_error (T : Tx W mg K fds) : FnOk P w W mg base (CX P w) 1 (He.ga W "_law_error") (fds 26) ["caught"] (spW K 1 fun ds => .lift (d_law_error ds)) := by
  refine fn_W T.F__law_error sc__law_error fun cdv A outer s H E c ds hr hl => ?_
  match ds, hl with
  | [v_caught], _ =>
    show PSs _ _ (tE K c E [.imm v_caught, .non] _)
    refine tE_eq (s_X (s_asg 1 sc__law_error.nd rfl (.inl rfl) (e_frz (o_list (l_cons (e_isX 0 T.ex (by decide) rfl T.z_isinstance rfl T.g_BadGrouping (e_rd (e_var 0 rfl (.inl rfl) rfl))) (l_cons (e_isX 1 T.ex (by decide) rfl T.z_isinstance rfl T.g_BadNumber (e_rd (e_var 0 rfl (.inl rfl) rfl))) (l_cons (e_isX 2 T.ex (by decide) rfl T.z_isinstance rfl T.g_BadPairs (e_rd (e_var 0 rfl (.inl rfl) rfl))) (l_nil))))))) (fun v_kinds1 => s_X (s_asg 1 sc__law_error.nd rfl (.inl rfl) (e_op op_addAll od_add (e_rd (e_var 1 rfl (.inl rfl) rfl)) (e_rd (e_frz (o_list (l_cons (e_isX 3 T.ex (by decide) rfl T.z_isinstance rfl T.g_BadText (e_rd (e_var 0 rfl (.inl rfl) rfl))) (l_cons (e_isX 4 T.ex (by decide) rfl T.z_isinstance rfl T.g_NotFound (e_rd (e_var 0 rfl (.inl rfl) rfl))) (l_nil)))))))) (fun v_kinds12 => s_ifE (PW.pt (w_or (q_cmp (op_neD hr.units) od_ne (e_rd (e_mtL PySem.F.slot_list_count PySem.F.type_list_count mt_bcount md_countB (e_rd (e_var 1 rfl (.inl rfl) rfl)) (e_rd (e_bl)))) (e_rd (e_int)) (nomark _)) (w_or (q_not (q_val (e_isX 5 T.ex (by decide) rfl T.z_isinstance rfl T.g_GroupError (e_rd (e_var 0 rfl (.inl rfl) rfl))))) (w_or1 (q_not (q_val (e_isV T.ex rfl T.z_isinstance rfl T.z_ValueError (e_rd (e_var 0 rfl (.inl rfl) rfl))))))))) (s_ret (e_str)) (s_ret (e_ix (ix_list.or ix_tup) od_at (e_rd (e_frz (o_list (l_cons (e_str) (l_cons (e_str) (l_cons (e_str) (l_cons (e_str) (l_cons (e_str) (l_nil))))))))) (e_rd (e_mtL PySem.F.slot_list_index PySem.F.type_list_index (mt_indexD (hu65 hr)) md_index (e_rd (e_var 1 rfl (.inl rfl) rfl)) (e_rd (e_bl)))) (fun _ _ => rfl)))))) ?_
    simp only [d_law_error, WP.bind_ret, WP.lift_bind, WP.lift_ite, WP.lift_ok, WP.lift_comp, WP.lift_fold, WP.lift_foldS, WP.lift_whl, WP.lift_seq, WP.lift_seqE, WP.lift_noE, WP.noE_ret, WP.lift_tryc, WP.lift_compV]
theorem sc_check_text : FnScope ["text"] ["text"] (defScope s_check_text) := ⟨rfl, rfl, rfl, by decide +kernel, rfl, by decide +kernel, by decide +kernel⟩
theorem b_check_text (T : Tx W mg K fds) : Binds W (fds 17) ["text"] [] := T.F_check_text.bindsN fun _ _ _ _ _ _ us hl => match us, hl with | [_], _ => rfl
theorem ok_check_text (T : Tx W mg K fds) : FnOk P w W mg base (CX P w) 1 (He.ga W "check_text") (fds 17) ["text"] (spW K 1 fun ds => .lift (d_check_text ds)) := by
  refine spW_eq (fn_S (fW := fun ds => match ds with | [v_text] => .lift ((((R.ofO (dIsTy .str v_text)).bind fun x2 => R.ofO (dBool x2)).bind fun b3 => R.ok !b3).bind fun b4 => if b4 = true then (R.err 3).bind fun x5 => R.ok (.rt x5) else R.ok (.nx ())) | _ => .lift .bad) (G := fun ds _ => [.non]) T.F_check_text sc_check_text fun cdv A outer s H E c ds hr hl => ?_) fun ds hl => ?_
  · match ds, hl with
    | [v_text], _ =>
      show PSs _ _ (tS K c E [.imm v_text] _ _)
      refine tS_eq (s_ifS (q_not (q_val (e_isi .str rfl T.z_isinstance rfl T.z_str bt_str (e_rd (e_var 0 rfl (.inl rfl) rfl))))) (s_raise 3 rfl (takes_of rfl rfl rfl rfl) PySem.F.excBase_ValueError T.x_BadText.1 T.g_BadText T.x_BadText.2.1 (raises_own T.x_BadText.2.2.1 T.x_BadText.2.2.2) rfl) (s_nilS (a := ()) (Le.drop Le.nil))) ?_
      simp only [WP.bind_ret, WP.lift_bind, WP.lift_ite, WP.lift_ok, WP.lift_comp, WP.lift_fold, WP.lift_foldS, WP.lift_whl, WP.lift_seq, WP.lift_seqE, WP.lift_noE, WP.noE_ret, WP.lift_tryc, WP.lift_compV]
  · match ds, hl with
    | [v_text], _ => simp only [d_check_text, WP.lift_seqE]; rfl
theorem sc_is_int : FnScope ["value", "low", "high"] ["value", "low", "high"] (defScope s_is_int) := ⟨rfl, rfl, rfl, by decide +kernel, rfl, by decide +kernel, by decide +kernel⟩
theorem b_is_int (T : Tx W mg K fds) : Binds W (fds 8) ["value", "low", "high"] [] := T.F_is_int.bindsN fun _ _ _ _ _ _ us hl => match us, hl with | [_, _, _], _ => rfl
theorem ok_is_int (T : Tx W mg K fds) : FnOk P w W mg base (CX P w) 1 (He.ga W "is_int") (fds 8) ["value", "low", "high"] (spW K 3 fun ds => .lift (d_is_int ds)) := by
  refine fn_W T.F_is_int sc_is_int fun cdv A outer s H E c ds hr hl => ?_
  match ds, hl with
  | [v_value, v_low, v_high], _ =>
    show PSs _ _ (tE K c E [.imm v_value, .imm v_low, .imm v_high] _)
    refine tE_eq (s_ret (e_and (e_isi .int rfl T.z_isinstance rfl T.z_int bt_int (e_rd (e_var 0 rfl (.inl rfl) rfl))) (e_and (e_not (e_isi .bool rfl T.z_isinstance rfl T.z_bool bt_bool (e_rd (e_var 0 rfl (.inl rfl) rfl)))) (e_last (e_chain op_le op_le od_le od_le (e_rd (e_var 1 rfl (.inl rfl) rfl)) (e_rd (e_var 0 rfl (.inl rfl) rfl)) (e_rd (e_var 2 rfl (.inl rfl) rfl))))))) ?_
    simp only [d_is_int, WP.bind_ret, WP.lift_bind, WP.lift_ite, WP.lift_ok, WP.lift_comp, WP.lift_fold, WP.lift_foldS, WP.lift_whl, WP.lift_seq, WP.lift_seqE, WP.lift_noE, WP.noE_ret, WP.lift_tryc, WP.lift_compV]
theorem sc_is_grouping : FnScope ["value", "most", "group"] ["value"] (defScope s_is_grouping) := ⟨rfl, rfl, rfl, by decide +kernel, rfl, by decide +kernel, by decide +kernel⟩
theorem b_is_grouping (T : Tx W mg K fds) : Binds W (fds 9) ["value"] [] := T.F_is_grouping.bindsN fun _ _ _ _ _ _ us hl => match us, hl with | [_], _ => rfl
theorem ok_is_grouping (T : Tx W mg K fds) : FnOk P w W mg base (CX P w) 2 (He.ga W "is_grouping") (fds 9) ["value"] (spW K 1 fun ds => .lift (d_is_grouping ds)) := by
  refine fn_W T.F_is_grouping sc_is_grouping fun cdv A outer s H E c ds hr hl => ?_
  match ds, hl with
  | [v_value], _ =>
    show PSs _ _ (tE K c E [.imm v_value, .non, .non] _)
    refine tE_eq (s_ifE (PW.pt (w_or (q_not (q_val (e_isi .list rfl T.z_isinstance rfl T.z_list bt_list (e_rd (e_var 0 rfl (.inl rfl) rfl))))) (w_or1 (q_not (q_chain op_le op_le od_le od_le (e_rd (e_int)) (e_rd (e_callB call_len cd_len rfl T.z_len bt_len (r_cons (e_rd (e_var 0 rfl (.inl rfl) rfl)) (r_nil)))) (e_rd (e_gint rfl T.c_MOST_THINGS))))))) (s_ret (e_bl)) (s_X (s_asg 1 sc_is_grouping.nd rfl (.inl rfl) (e_neg)) (fun v_most16 => s_S (s_forS (Ga := fun (p17 : D) => [.imm (v_value), .imm (p17), .non]) (a0 := v_most16) (passes_of rfl) rfl (i_list (e_var 0 rfl (.inl rfl) rfl)) (Le.refl _) (fun _ => g_name 2 sc_is_grouping.nd rfl (.inl rfl)) (fun p17 a19 => s_ifS (q_not (q_val (e_call (ok_is_int T) (hr.mono (by decide)) rfl T.g_is_int T.k_is_int (b_is_int T) (passX (takes_of rfl rfl rfl rfl)) (l_cons (e_var 2 rfl (.inl rfl) rfl) (l_cons (e_int) (l_cons (e_op op_addAll od_add (e_rd (e_var 1 rfl (.inl rfl) rfl)) (e_rd (e_int))) (l_nil))))))) (s_ret (e_bl)) (s_XS (s_asg 1 sc_is_grouping.nd rfl (.inl rfl) (e_callB (cr_maxAll rfl) cd_max rfl T.z_max bt_max (r_cons (e_rd (e_var 1 rfl (.inl rfl) rfl)) (r_cons (e_rd (e_var 2 rfl (.inl rfl) rfl)) (r_nil))))) (fun v_most31 => s_nilS (a := v_most31) (Le.keep (Le.keep (Le.drop Le.nil))))))) (fun p17 => s_ret (e_bl))))) ?_
    simp only [d_is_grouping, WP.bind_ret, WP.lift_bind, WP.lift_ite, WP.lift_ok, WP.lift_comp, WP.lift_fold, WP.lift_foldS, WP.lift_whl, WP.lift_seq, WP.lift_seqE, WP.lift_noE, WP.noE_ret, WP.lift_tryc, WP.lift_compV]
theorem sc_parse_grouping : FnScope ["text", "found", "sign"] ["text"] (defScope s_parse_grouping) := ⟨rfl, rfl, rfl, by decide +kernel, rfl, by decide +kernel, by decide +kernel⟩
theorem b_parse_grouping (T : Tx W mg K fds) : Binds W (fds 19) ["text"] [] := T.F_parse_grouping.bindsN fun _ _ _ _ _ _ us hl => match us, hl with | [_], _ => rfl
theorem ok_parse_grouping (T : Tx W mg K fds) : FnOk P w W mg base (CX P w) 3 (He.ga W "parse_grouping") (fds 19) ["text"] (spW K 1 fun ds => .lift (d_parse_grouping ds)) := by
  refine fn_W T.F_parse_grouping sc_parse_grouping fun cdv A outer s H E c ds hr hl => ?_
  match ds, hl with
  | [v_text], _ =>
    show PSs _ _ (tE K c E [.imm v_text, .non, .non] _)
    refine tE_eq (s_X (s_drop (e_call (ok_check_text T) (hr.mono (by decide)) rfl T.g_check_text T.k_check_text (b_check_text T) (passX (takes_of rfl rfl rfl rfl)) (l_cons (e_var 0 rfl (.inl rfl) rfl) (l_nil)))) (fun _ => s_ifE (q_not (q_val (e_callB (cr_all rfl) cd_all rfl T.z_all bt_all (r_cons (e_rd (e_frz (o_lc0 (own := [("sign", 2)]) rfl sc_parse_grouping.nd (j_text (e_var 0 rfl (.inl rfl) rfl)) (by kernel_rfl) (fun _ _ _ _ _ => g_name 2 sc_parse_grouping.nd rfl (.inl rfl)) (fun _ _ _ _ _ a5 => e_cmp (op_inAll (hu65 hr)) od_in (e_rd (e_var 2 rfl (.inl rfl) rfl)) (e_rd (e_gstr rfl T.c_DIGITS)) rfl)))) (r_nil))))) (s_raise 3 rfl (takes_of rfl rfl rfl rfl) PySem.F.excBase_ValueError T.x_BadText.1 T.g_BadText T.x_BadText.2.1 (raises_own T.x_BadText.2.2.1 T.x_BadText.2.2.2) rfl) (s_X (s_lc0 (own := [("sign", 2)]) 1 rfl sc_parse_grouping.nd rfl rfl (sw_true rfl rfl rfl (by kernel_rfl)) (j_text (e_var 0 rfl (.inl rfl) rfl)) (by kernel_rfl) (fun _ _ _ _ _ => g_name 2 sc_parse_grouping.nd rfl (.inl rfl)) (fun _ _ _ _ _ a18 => e_callTy call_int_str cd_int rfl T.z_int bt_int (r_cons (e_rd (e_var 2 rfl (.inl rfl) rfl)) (r_nil)))) (fun v_found16 => s_ifE (q_not (q_val (e_call (ok_is_grouping T) (hr.mono (by decide)) rfl T.g_is_grouping T.k_is_grouping (b_is_grouping T) (passX (takes_of rfl rfl rfl rfl)) (l_cons (e_var 1 rfl (.inl rfl) rfl) (l_nil))))) (s_raise 3 rfl (takes_of rfl rfl rfl rfl) PySem.F.excBase_ValueError T.x_BadText.1 T.g_BadText T.x_BadText.2.1 (raises_own T.x_BadText.2.2.1 T.x_BadText.2.2.2) rfl) (s_ret (e_var 1 rfl (.inl rfl) rfl)))))) ?_
    simp only [d_parse_grouping, WP.bind_ret, WP.lift_bind, WP.lift_ite, WP.lift_ok, WP.lift_comp, WP.lift_fold, WP.lift_foldS, WP.lift_whl, WP.lift_seq, WP.lift_seqE, WP.lift_noE, WP.noE_ret, WP.lift_tryc, WP.lift_compV]
theorem sc_numbered : FnScope ["labels", "known", "found", "label"] ["labels"] (defScope s_numbered) := ⟨rfl, rfl, rfl, by decide +kernel, rfl, by decide +kernel, by decide +kernel⟩
theorem b_numbered (T : Tx W mg K fds) : Binds W (fds 12) ["labels"] [] := T.F_numbered.bindsN fun _ _ _ _ _ _ us hl => match us, hl with | [_], _ => rfl
theorem ok_numbered (T : Tx W mg K fds) : FnOk P w W mg base (CX P w) 1 (He.ga W "numbered") (fds 12) ["labels"] (spW K 1 fun ds => .lift (d_numbered ds)) := by
  refine fn_W T.F_numbered sc_numbered fun cdv A outer s H E c ds hr hl => ?_
  match ds, hl with
  | [v_labels], _ =>
    show PSs _ _ (tE K c E [.imm v_labels, .non, .non, .non] _)
    refine tE_eq (s_X (s_asgO 1 sc_numbered.nd rfl (.inl rfl) (o_list (l_nil))) (fun v_known1 => s_X (s_asgO 2 sc_numbered.nd rfl (.inl rfl) (o_list (l_nil))) (fun v_found2 => s_X (s_for (Ga := fun (p3 : List D × List D) => [.imm (v_labels), own K (p3.1), own K (p3.2), .non]) (a0 := (v_known1, v_found2)) (passes_of rfl) rfl (i_list (e_var 0 rfl (.inl rfl) rfl)) (Le.refl _) (fun _ => g_name 3 sc_numbered.nd rfl (.inl rfl)) (fun p3 a5 => s_XX (s_ifX (G := fun (p10 : List D) => [.imm (v_labels), own K (p10), own K (p3.2), .imm (a5)]) (q_cmp (op_notInAll (hu65 hr)) od_notIn (e_rd (e_var 3 rfl (.inl rfl) rfl)) (e_own 1 rfl (.inl rfl) rfl) rfl) (s_XX (s_app 1 rfl (.inl rfl) rfl (e_var 3 rfl (.inl rfl) rfl)) (fun v_known11 => s_nil (a := v_known11) (Le.refl _))) (s_nil (a := p3.1) (Le.refl _))) (fun p10 => s_XX (s_app 2 rfl (.inl rfl) rfl (e_mtL PySem.F.slot_list_index PySem.F.type_list_index (mt_indexD (hu65 hr)) md_index (e_own 1 rfl (.inl rfl) rfl) (e_rd (e_var 3 rfl (.inl rfl) rfl)))) (fun v_found16 => s_nil (a := (p10, v_found16)) (Le.keep (Le.keep (Le.keep (Le.drop Le.nil)))))))) (fun p3 => s_frzE 2 rfl (s_ret (e_var 2 rfl (.inl rfl) rfl)))))) ?_
    simp only [d_numbered, WP.bind_ret, WP.lift_bind, WP.lift_ite, WP.lift_ok, WP.lift_comp, WP.lift_fold, WP.lift_foldS, WP.lift_whl, WP.lift_seq, WP.lift_seqE, WP.lift_noE, WP.noE_ret, WP.lift_tryc, WP.lift_compV]
theorem sc_grouping_of : FnScope ["parts", "things", "part", "thing", "k"] ["parts"] (defScope s_grouping_of) := ⟨rfl, rfl, rfl, by decide +kernel, rfl, by decide +kernel, by decide +kernel⟩
theorem b_grouping_of (T : Tx W mg K fds) : Binds W (fds 14) ["parts"] [] := T.F_grouping_of.bindsN fun _ _ _ _ _ _ us hl => match us, hl with | [_], _ => rfl
theorem ok_grouping_of (T : Tx W mg K fds) : FnOk P w W mg base (CX P w) 2 (He.ga W "grouping_of") (fds 14) ["parts"] (spW K 1 fun ds => .lift (d_grouping_of ds)) := by
  refine fn_W T.F_grouping_of sc_grouping_of fun cdv A outer s H E c ds hr hl => ?_
  match ds, hl with
  | [v_parts], _ =>
    show PSs _ _ (tE K c E [.imm v_parts, .non, .non, .non, .non] _)
    refine tE_eq (s_ifE (PW.pt (w_or (q_not (q_val (e_isi .list rfl T.z_isinstance rfl T.z_list bt_list (e_rd (e_var 0 rfl (.inr (.inl rfl)) rfl))))) (w_or1 (q_not (q_val (e_callB (cr_all rfl) cd_all rfl T.z_all bt_all (r_cons (e_rd (e_frz (o_lc0 (own := [("part", 2)]) rfl sc_grouping_of.nd (j_list (e_rd (e_var 0 rfl (.inr (.inl rfl)) rfl))) (by kernel_rfl) (fun _ _ _ _ _ => g_name 2 sc_grouping_of.nd rfl (.inl rfl)) (fun _ _ _ _ _ a5 => e_and (e_isi .list rfl T.z_isinstance rfl T.z_list bt_list (e_rd (e_var 2 rfl (.inl rfl) rfl))) (e_last (e_cmp (op_neD hr.units) od_ne (e_rd (e_var 2 rfl (.inl rfl) rfl)) (e_rd (e_frz (o_list (l_nil)))) (nomark _))))))) (r_nil)))))))) (s_raise 0 rfl (takes_of rfl rfl rfl rfl) PySem.F.excBase_ValueError T.x_BadGrouping.1 T.g_BadGrouping T.x_BadGrouping.2.1 (raises_own T.x_BadGrouping.2.2.1 T.x_BadGrouping.2.2.2) rfl) (s_X (s_asg 1 sc_grouping_of.nd rfl (.inl rfl) (e_frz (o_list (l_nil)))) (fun v_things21 => s_X (s_for (Ga := fun (p23 : D) => [.imm (v_parts), .imm (p23), .non, .non, .non]) (a0 := v_things21) (passes_of rfl) rfl (i_list (e_var 0 rfl (.inr (.inl rfl)) rfl)) (Le.refl _) (fun _ => g_name 2 sc_grouping_of.nd rfl (.inl rfl)) (fun p23 a25 => s_XX (s_asg 1 sc_grouping_of.nd rfl (.inl rfl) (e_op op_addAll od_add (e_rd (e_var 1 rfl (.inl rfl) rfl)) (e_rd (e_var 2 rfl (.inl rfl) rfl)))) (fun v_things26 => s_nil (a := v_things26) (Le.keep (Le.keep (Le.drop (Le.keep (Le.keep Le.nil)))))))) (fun p23 => s_ifE (PW.pt (w_or (q_not (q_chain op_le op_le od_le od_le (e_rd (e_int)) (e_rd (e_callB call_len cd_len rfl T.z_len bt_len (r_cons (e_rd (e_var 1 rfl (.inl rfl) rfl)) (r_nil)))) (e_rd (e_int)))) (w_or1 (q_not (q_val (e_callB (cr_all rfl) cd_all rfl T.z_all bt_all (r_cons (e_rd (e_frz (o_lc0 (own := [("thing", 3)]) rfl sc_grouping_of.nd (j_list (e_rd (e_var 1 rfl (.inl rfl) rfl))) (by kernel_rfl) (fun _ _ _ _ _ => g_name 3 sc_grouping_of.nd rfl (.inl rfl)) (fun _ _ _ _ _ a40 => e_call (ok_is_int T) (hr.mono (by decide)) rfl T.g_is_int T.k_is_int (b_is_int T) passL (l_cons (e_var 3 rfl (.inl rfl) rfl) (l_cons (e_int) (l_cons (e_int) (l_nil)))))))) (r_nil)))))))) (s_raise 0 rfl (takes_of rfl rfl rfl rfl) PySem.F.excBase_ValueError T.x_BadGrouping.1 T.g_BadGrouping T.x_BadGrouping.2.1 (raises_own T.x_BadGrouping.2.2.1 T.x_BadGrouping.2.2.2) rfl) (s_ifE (q_cmp (op_neD hr.units) od_ne (e_rd (e_callB cr_sortA cd_sortA rfl T.z_sorted bt_sorted (r_cons (e_rd (e_var 1 rfl (.inl rfl) rfl)) (r_nil)))) (e_rd (e_frz (o_listRg rfl rfl T.z_list rfl T.z_range (e_rd (e_callB call_len cd_len rfl T.z_len bt_len (r_cons (e_rd (e_var 1 rfl (.inl rfl) rfl)) (r_nil))))))) (nomark _)) (s_raise 0 rfl (takes_of rfl rfl rfl rfl) PySem.F.excBase_ValueError T.x_BadGrouping.1 T.g_BadGrouping T.x_BadGrouping.2.1 (raises_own T.x_BadGrouping.2.2.1 T.x_BadGrouping.2.2.2) rfl) (s_ret (e_call (ok_numbered T) (hr.mono (by decide)) rfl T.g_numbered T.k_numbered (b_numbered T) (passX (takes_of rfl rfl rfl rfl)) (l_cons (e_frz (o_lc0 (own := [("thing", 3)]) rfl sc_grouping_of.nd (j_of (i_range1 rfl T.z_range (r_cons (e_rd (e_callB call_len cd_len rfl T.z_len bt_len (r_cons (e_rd (e_var 1 rfl (.inl rfl) rfl)) (r_nil)))) (r_nil)))) (by kernel_rfl) (fun _ _ _ _ _ => g_name 3 sc_grouping_of.nd rfl (.inr rfl)) (fun _ _ _ _ _ a74 => e_ix (ix_list.or ix_tup) od_at (e_rd (e_frz (o_lc (own := [("k", 4), ("part", 2)]) rfl sc_grouping_of.nd (j_of (i_enum rfl T.z_enumerate (l_cons (e_var 0 rfl (.inr (.inl rfl)) rfl) (l_nil)).pa)) (by kernel_rfl) (fun _ _ _ _ _ => g_pair 4 2 rfl sc_grouping_of.nd rfl rfl (.inl rfl) (.inl rfl)) (fun _ _ _ _ _ a78 => q_cmp (op_inAll (hu65 hr)) od_in (e_rd (e_var 3 rfl (.inr (.inl rfl)) rfl)) (e_rd (e_var 2 rfl (.inl rfl) rfl)) rfl) (fun _ _ _ _ _ a78 => e_var 4 rfl (.inl rfl) rfl)))) (e_rd (e_int)) (fun _ _ => rfl)))) (l_nil))))))))) ?_
    simp only [d_grouping_of, WP.bind_ret, WP.lift_bind, WP.lift_ite, WP.lift_ok, WP.lift_comp, WP.lift_fold, WP.lift_foldS, WP.lift_whl, WP.lift_seq, WP.lift_seqE, WP.lift_noE, WP.noE_ret, WP.lift_tryc, WP.lift_compV]
theorem sc_groups_of : FnScope ["grouping", "group", "k"] ["grouping"] (defScope s_groups_of) := ⟨rfl, rfl, rfl, by decide +kernel, rfl, by decide +kernel, by decide +kernel⟩
theorem b_groups_of (T : Tx W mg K fds) : Binds W (fds 13) ["grouping"] [] := T.F_groups_of.bindsN fun _ _ _ _ _ _ us hl => match us, hl with | [_], _ => rfl
theorem ok_groups_of (T : Tx W mg K fds) : FnOk P w W mg base (CX P w) 1 (He.ga W "groups_of") (fds 13) ["grouping"] (spW K 1 fun ds => .lift (d_groups_of ds)) := by
  refine fn_W T.F_groups_of sc_groups_of fun cdv A outer s H E c ds hr hl => ?_
  match ds, hl with
  | [v_grouping], _ =>
    show PSs _ _ (tE K c E [.imm v_grouping, .non, .non] _)
    refine tE_eq (s_ret (e_frz (o_lc0 (own := [("group", 1)]) rfl sc_groups_of.nd (j_of (i_range1 rfl T.z_range (r_cons (e_rd (e_op op_addAll od_add (e_rd (e_callB (cr_maxAll rfl) cd_max rfl T.z_max bt_max (r_cons (e_rd (e_var 0 rfl (.inr (.inl rfl)) rfl)) (r_nil)))) (e_rd (e_int)))) (r_nil)))) (by kernel_rfl) (fun _ _ _ _ _ => g_name 1 sc_groups_of.nd rfl (.inr rfl)) (fun _ _ _ _ _ a9 => e_frz (o_lc (own := [("k", 2)]) rfl sc_groups_of.nd (j_of (i_range1 rfl T.z_range (r_cons (e_rd (e_callB call_len cd_len rfl T.z_len bt_len (r_cons (e_rd (e_var 0 rfl (.inr (.inl rfl)) rfl)) (r_nil)))) (r_nil)))) (by kernel_rfl) (fun _ _ _ _ _ => g_name 2 sc_groups_of.nd rfl (.inl rfl)) (fun _ _ _ _ _ a16 => q_cmp (op_eqD hr.units) od_eq (e_rd (e_ix (ix_list.or ix_tup) od_at (e_rd (e_var 0 rfl (.inr (.inl rfl)) rfl)) (e_rd (e_var 2 rfl (.inl rfl) rfl)) (fun _ _ => rfl))) (e_rd (e_var 1 rfl (.inr (.inl rfl)) rfl)) (nomark _)) (fun _ _ _ _ _ a16 => e_var 2 rfl (.inl rfl) rfl)))))) ?_
    simp only [d_groups_of, WP.bind_ret, WP.lift_bind, WP.lift_ite, WP.lift_ok, WP.lift_comp, WP.lift_fold, WP.lift_foldS, WP.lift_whl, WP.lift_seq, WP.lift_seqE, WP.lift_noE, WP.noE_ret, WP.lift_tryc, WP.lift_compV]
theorem sc_parse_groups : FnScope ["text", "parts", "things", "found", "part", "sign"] ["text"] (defScope s_parse_groups) := ⟨rfl, rfl, rfl, by decide +kernel, rfl, by decide +kernel, by decide +kernel⟩
theorem b_parse_groups (T : Tx W mg K fds) : Binds W (fds 21) ["text"] [] := T.F_parse_groups.bindsN fun _ _ _ _ _ _ us hl => match us, hl with | [_], _ => rfl
theorem ok_parse_groups (T : Tx W mg K fds) : FnOk P w W mg base (CX P w) 3 (He.ga W "parse_groups") (fds 21) ["text"] (spW K 1 fun ds => .lift (d_parse_groups ds)) := by
  refine fn_W T.F_parse_groups sc_parse_groups fun cdv A outer s H E c ds hr hl => ?_
  match ds, hl with
  | [v_text], _ =>
    show PSs _ _ (tE K c E [.imm v_text, .non, .non, .non, .non, .non] _)
    refine tE_eq (s_X (s_drop (e_call (ok_check_text T) (hr.mono (by decide)) rfl T.g_check_text T.k_check_text (b_check_text T) (passX (takes_of rfl rfl rfl rfl)) (l_cons (e_var 0 rfl (.inl rfl) rfl) (l_nil)))) (fun _ => s_X (s_asg 1 sc_parse_groups.nd rfl (.inl rfl) (e_frz (o_split (e_var 0 rfl (.inl rfl) rfl) (e_str)))) (fun v_parts4 => s_ifE (q_not (q_val (e_callB (cr_all rfl) cd_all rfl T.z_all bt_all (r_cons (e_rd (e_frz (o_lc0 (own := [("part", 4)]) rfl sc_parse_groups.nd (j_list (e_rd (e_var 1 rfl (.inl rfl) rfl))) (by kernel_rfl) (fun _ _ _ _ _ => g_name 4 sc_parse_groups.nd rfl (.inl rfl)) (fun _ _ _ _ _ a10 => e_and (e_cmp (op_neD hr.units) od_ne (e_rd (e_var 4 rfl (.inl rfl) rfl)) (e_rd (e_str)) (nomark _)) (e_last (e_callB (cr_all rfl) cd_all rfl T.z_all bt_all (r_cons (e_rd (e_frz (o_lc0 (own := [("sign", 5)]) rfl sc_parse_groups.nd (j_text (e_var 4 rfl (.inl rfl) rfl)) (by kernel_rfl) (fun _ _ _ _ _ => g_name 5 sc_parse_groups.nd rfl (.inl rfl)) (fun _ _ _ _ _ a14 => e_cmp (op_inAll (hu65 hr)) od_in (e_rd (e_var 5 rfl (.inl rfl) rfl)) (e_rd (e_gstr rfl T.c_DIGITS)) rfl)))) (r_nil)))))))) (r_nil))))) (s_raise 3 rfl (takes_of rfl rfl rfl rfl) PySem.F.excBase_ValueError T.x_BadText.1 T.g_BadText T.x_BadText.2.1 (raises_own T.x_BadText.2.2.1 T.x_BadText.2.2.2) rfl) (s_X (s_lc0 (own := [("part", 4)]) 2 rfl sc_parse_groups.nd rfl rfl (sw_true rfl rfl rfl (by kernel_rfl)) (j_list (e_rd (e_var 1 rfl (.inl rfl) rfl))) (by kernel_rfl) (fun _ _ _ _ _ => g_name 4 sc_parse_groups.nd rfl (.inl rfl)) (fun _ _ _ _ _ a34 => e_frz (o_lc0 (own := [("sign", 5)]) rfl sc_parse_groups.nd (j_text (e_var 4 rfl (.inl rfl) rfl)) (by kernel_rfl) (fun _ _ _ _ _ => g_name 5 sc_parse_groups.nd rfl (.inl rfl)) (fun _ _ _ _ _ a36 => e_callTy call_int_str cd_int rfl T.z_int bt_int (r_cons (e_rd (e_var 5 rfl (.inl rfl) rfl)) (r_nil)))))) (fun v_things32 => s_X (s_asg 3 sc_parse_groups.nd rfl (.inl rfl) (e_non)) (fun v_found43 => s_X (s_tryN 3 (fin := fun (a : D) => a) (fer := fun (_ : Nat) => (.none : D)) (G' := fun (p46 : D) => [.imm (v_text), .imm (v_parts4), .imm (v_things32), .imm (p46), .non, .non]) rfl rfl sc_parse_groups.nd rfl rfl rfl T.g_GroupError T.ex.exm (fun _ _ _ tk => s_asgT 3 sc_parse_groups.nd rfl (.inl rfl) (e_callT tk (ok_grouping_of T) (hr.mono (by decide)) rfl T.g_grouping_of T.k_grouping_of (b_grouping_of T) (l_cons (e_var 2 rfl (.inl rfl) rfl) (l_nil)))) (fun _ => Le.refl _) (fun _ => Le.refl _)) (fun p46 => s_ifE (PW.pt (w_or (q_cmp op_isAll od_is (e_rd (e_var 3 rfl (.inl rfl) rfl)) (e_rd (e_non)) (nomark _)) (w_or1 (q_cmp (op_neD hr.units) od_ne (e_rd (e_call (ok_groups_of T) (hr.mono (by decide)) rfl T.g_groups_of T.k_groups_of (b_groups_of T) (passX (takes_of rfl rfl rfl rfl)) (l_cons (e_var 3 rfl (.inl rfl) rfl) (l_nil)))) (e_rd (e_var 2 rfl (.inl rfl) rfl)) (nomark _))))) (s_raise 3 rfl (takes_of rfl rfl rfl rfl) PySem.F.excBase_ValueError T.x_BadText.1 T.g_BadText T.x_BadText.2.1 (raises_own T.x_BadText.2.2.1 T.x_BadText.2.2.2) rfl) (s_ret (e_var 3 rfl (.inl rfl) rfl))))))))) ?_
    simp only [d_parse_groups, WP.bind_ret, WP.lift_bind, WP.lift_ite, WP.lift_ok, WP.lift_comp, WP.lift_fold, WP.lift_foldS, WP.lift_whl, WP.lift_seq, WP.lift_seqE, WP.lift_noE, WP.noE_ret, WP.lift_tryc, WP.lift_compV]
theorem sc__law_parsed : FnScope ["kind", "text", "found", "caught", "e"] ["kind", "text"] (defScope s__law_parsed) := ⟨rfl, rfl, rfl, by decide +kernel, rfl, by decide +kernel, by decide +kernel⟩
theorem b__law_parsed (T : Tx W mg K fds) : Binds W (fds 31) ["kind", "text"] [] := T.F__law_parsed.bindsN fun _ _ _ _ _ _ us hl => match us, hl with | [_, _], _ => rfl
theorem ok__law_parsed (T : Tx W mg K fds) : FnOk P w W mg base (CX P w) 4 (He.ga W "_law_parsed") (fds 31) ["kind", "text"] (spW K 2 fun ds => .lift (d_law_parsed ds)) := by
  refine fn_W T.F__law_parsed sc__law_parsed fun cdv A outer s H E c ds hr hl => ?_
  match ds, hl with
  | [v_kind, v_text], _ =>
    show PSs _ _ (tE K c E [.imm v_kind, .imm v_text, .non, .non, .non] _)
    refine tE_eq (s_X (s_asg 2 sc__law_parsed.nd rfl (.inl rfl) (e_non)) (fun v_found1 => s_X (s_asg 3 sc__law_parsed.nd rfl (.inl rfl) (e_non)) (fun v_caught2 => s_X (s_try 4 3 (fin := fun (a : D) => ((a, v_caught2) : D × D)) (fer := fun k => ((v_found1, dExc k) : D × D)) (G' := fun (p11 : D × D) => [.imm (v_kind), .imm (v_text), .imm (p11.1), .imm (p11.2), .non]) rfl rfl sc__law_parsed.nd rfl rfl (by decide) rfl rfl rfl T.g_GroupError T.ex.exm (fun _ _ _ tk => s_asgT 2 sc__law_parsed.nd rfl (.inl rfl) (e_ifT (q_cmp (op_eqD hr.units) od_eq (e_rd (e_var 0 rfl (.inl rfl) rfl)) (e_rd (e_int)) (nomark _)) (e_callT tk (ok_parse_grouping T) (hr.mono (by decide)) rfl T.g_parse_grouping T.k_parse_grouping (b_parse_grouping T) (l_cons (e_var 1 rfl (.inl rfl) rfl) (l_nil))) (e_callT tk (ok_parse_groups T) (hr.mono (by decide)) rfl T.g_parse_groups T.k_parse_groups (b_parse_groups T) (l_cons (e_var 1 rfl (.inl rfl) rfl) (l_nil))))) (fun _ => Le.refl _) (fun _ => Le.refl _)) (fun p11 => s_ret (e_if (q_cmp op_isAll od_is (e_rd (e_var 3 rfl (.inl rfl) rfl)) (e_rd (e_non)) (nomark _)) (e_var 2 rfl (.inl rfl) rfl) (e_call (ok__law_error T) (hr.mono (by decide)) rfl T.g__law_error T.k__law_error (b__law_error T) (passX (takes_of rfl rfl rfl rfl)) (l_cons (e_var 3 rfl (.inl rfl) rfl) (l_nil)))))))) ?_
    simp only [d_law_parsed, WP.bind_ret, WP.lift_bind, WP.lift_ite, WP.lift_ok, WP.lift_comp, WP.lift_fold, WP.lift_foldS, WP.lift_whl, WP.lift_seq, WP.lift_seqE, WP.lift_noE, WP.noE_ret, WP.lift_tryc, WP.lift_compV]
theorem sc__law_rejected : FnScope ["odd", "bad"] [] (defScope s__law_rejected) := ⟨rfl, rfl, rfl, by decide +kernel, rfl, by decide +kernel, by decide +kernel⟩
theorem b__law_rejected (T : Tx W mg K fds) : Binds W (fds 32) [] [] := T.F__law_rejected.bindsN fun _ _ _ _ _ _ us hl => match us, hl with | [], _ => rfl
theorem ok__law_rejected (T : Tx W mg K fds) : FnOk P w W mg base (CX P w) 5 (He.ga W "_law_rejected") (fds 32) [] (spW K 0 fun ds => .lift (d_law_rejected ds)) := by
  refine fn_W T.F__law_rejected sc__law_rejected fun cdv A outer s H E c ds hr hl => ?_
  match ds, hl with
  | [], _ =>
    show PSs _ _ (tE K c E [.non, .non] _)
    refine tE_eq (s_X (s_asg 0 sc__law_rejected.nd rfl (.inl rfl) (e_frz (o_list (l_cons (e_non) (l_cons (e_int) (l_cons (e_str) (l_cons (e_str) (l_cons (e_str) (l_cons (e_str) (l_cons (e_str) (l_cons (e_str) (l_cons (e_str) (l_cons (e_str) (l_cons (e_str) (l_cons (e_str) (l_cons (e_frz (o_list (l_cons (e_str) (l_nil)))) (l_nil))))))))))))))))) (fun v_odd1 => s_ifE (PW.pt (w_or (q_cmp (op_neD hr.units) od_ne (e_rd (e_frz (o_lc0 (own := [("bad", 1)]) rfl sc__law_rejected.nd (j_list (e_rd (e_var 0 rfl (.inl rfl) rfl))) (by kernel_rfl) (fun _ _ _ _ _ => g_name 1 sc__law_rejected.nd rfl (.inl rfl)) (fun _ _ _ _ _ a34 => e_call (ok__law_parsed T) (hr.mono (by decide)) rfl T.g__law_parsed T.k__law_parsed (b__law_parsed T) passL (l_cons (e_int) (l_cons (e_var 1 rfl (.inl rfl) rfl) (l_nil))))))) (e_rd (e_op op_mulAll od_mul (e_rd (e_frz (o_list (l_cons (e_str) (l_nil))))) (e_rd (e_int)))) (nomark _)) (w_or1 (q_cmp (op_neD hr.units) od_ne (e_rd (e_call (ok__law_parsed T) (hr.mono (by decide)) rfl T.g__law_parsed T.k__law_parsed (b__law_parsed T) (passX (takes_of rfl rfl rfl rfl)) (l_cons (e_int) (l_cons (e_str) (l_nil))))) (e_rd (e_frz (o_list (l_cons (e_int) (l_cons (e_int) (l_cons (e_int) (l_cons (e_int) (l_cons (e_int) (l_cons (e_int) (l_cons (e_int) (l_nil))))))))))) (nomark _))))) (s_ret (e_bl)) (s_X (s_asg 0 sc__law_rejected.nd rfl (.inl rfl) (e_frz (o_list (l_cons (e_non) (l_cons (e_int) (l_cons (e_str) (l_cons (e_str) (l_cons (e_str) (l_cons (e_str) (l_cons (e_str) (l_cons (e_str) (l_cons (e_str) (l_cons (e_str) (l_cons (e_str) (l_cons (e_str) (l_cons (e_str) (l_cons (e_str) (l_cons (e_str) (l_cons (e_str) (l_cons (e_str) (l_cons (e_str) (l_nil)))))))))))))))))))))) (fun v_odd72 => s_ret (e_and (e_cmp (op_eqD hr.units) od_eq (e_rd (e_frz (o_lc0 (own := [("bad", 1)]) rfl sc__law_rejected.nd (j_list (e_rd (e_var 0 rfl (.inl rfl) rfl))) (by kernel_rfl) (fun _ _ _ _ _ => g_name 1 sc__law_rejected.nd rfl (.inl rfl)) (fun _ _ _ _ _ a111 => e_call (ok__law_parsed T) (hr.mono (by decide)) rfl T.g__law_parsed T.k__law_parsed (b__law_parsed T) passL (l_cons (e_int) (l_cons (e_var 1 rfl (.inl rfl) rfl) (l_nil))))))) (e_rd (e_op op_mulAll od_mul (e_rd (e_frz (o_list (l_cons (e_str) (l_nil))))) (e_rd (e_int)))) (nomark _)) (e_and (e_cmp (op_eqD hr.units) od_eq (e_rd (e_call (ok__law_parsed T) (hr.mono (by decide)) rfl T.g__law_parsed T.k__law_parsed (b__law_parsed T) (passX (takes_of rfl rfl rfl rfl)) (l_cons (e_int) (l_cons (e_str) (l_nil))))) (e_rd (e_frz (o_list (l_cons (e_int) (l_cons (e_int) (l_cons (e_int) (l_nil))))))) (nomark _)) (e_last (e_cmp (op_eqD hr.units) od_eq (e_rd (e_call (ok__law_parsed T) (hr.mono (by decide)) rfl T.g__law_parsed T.k__law_parsed (b__law_parsed T) (passX (takes_of rfl rfl rfl rfl)) (l_cons (e_int) (l_cons (e_str) (l_nil))))) (e_rd (e_op op_mulAll od_mul (e_rd (e_frz (o_list (l_cons (e_int) (l_nil))))) (e_rd (e_int)))) (nomark _))))))))) ?_
    simp only [d_law_rejected, WP.bind_ret, WP.lift_bind, WP.lift_ite, WP.lift_ok, WP.lift_comp, WP.lift_fold, WP.lift_foldS, WP.lift_whl, WP.lift_seq, WP.lift_seqE, WP.lift_noE, WP.noE_ret, WP.lift_tryc, WP.lift_compV]
theorem sc_check_grouping : FnScope ["value"] ["value"] (defScope s_check_grouping) := ⟨rfl, rfl, rfl, by decide +kernel, rfl, by decide +kernel, by decide +kernel⟩
theorem b_check_grouping (T : Tx W mg K fds) : Binds W (fds 10) ["value"] [] := T.F_check_grouping.bindsN fun _ _ _ _ _ _ us hl => match us, hl with | [_], _ => rfl
theorem ok_check_grouping (T : Tx W mg K fds) : FnOk P w W mg base (CX P w) 3 (He.ga W "check_grouping") (fds 10) ["value"] (spW K 1 fun ds => .lift (d_check_grouping ds)) := by
  refine spW_eq (fn_S (fW := fun ds => match ds with | [v_value] => .lift (((((R.ok (v_value :: [])).bind d_is_grouping).bind fun x3 => R.ofO (dBool x3)).bind fun b4 => R.ok !b4).bind fun b5 => if b5 = true then (R.err 0).bind fun x6 => R.ok (.rt x6) else R.ok (.nx ())) | _ => .lift .bad) (G := fun ds _ => [.non]) T.F_check_grouping sc_check_grouping fun cdv A outer s H E c ds hr hl => ?_) fun ds hl => ?_
  · match ds, hl with
    | [v_value], _ =>
      show PSs _ _ (tS K c E [.imm v_value] _ _)
      refine tS_eq (s_ifS (q_not (q_val (e_call (ok_is_grouping T) (hr.mono (by decide)) rfl T.g_is_grouping T.k_is_grouping (b_is_grouping T) (passX (takes_of rfl rfl rfl rfl)) (l_cons (e_var 0 rfl (.inl rfl) rfl) (l_nil))))) (s_raise 0 rfl (takes_of rfl rfl rfl rfl) PySem.F.excBase_ValueError T.x_BadGrouping.1 T.g_BadGrouping T.x_BadGrouping.2.1 (raises_own T.x_BadGrouping.2.2.1 T.x_BadGrouping.2.2.2) rfl) (s_nilS (a := ()) (Le.drop Le.nil))) ?_
      simp only [WP.bind_ret, WP.lift_bind, WP.lift_ite, WP.lift_ok, WP.lift_comp, WP.lift_fold, WP.lift_foldS, WP.lift_whl, WP.lift_seq, WP.lift_seqE, WP.lift_noE, WP.noE_ret, WP.lift_tryc, WP.lift_compV]
  · match ds, hl with
    | [v_value], _ => simp only [d_check_grouping, WP.lift_seqE]; rfl
theorem sc_format_grouping : FnScope ["grouping", "group"] ["grouping"] (defScope s_format_grouping) := ⟨rfl, rfl, rfl, by decide +kernel, rfl, by decide +kernel, by decide +kernel⟩
theorem b_format_grouping (T : Tx W mg K fds) : Binds W (fds 18) ["grouping"] [] := T.F_format_grouping.bindsN fun _ _ _ _ _ _ us hl => match us, hl with | [_], _ => rfl
theorem ok_format_grouping (T : Tx W mg K fds) : FnOk P w W mg base (CX P w) 4 (He.ga W "format_grouping") (fds 18) ["grouping"] (spW K 1 fun ds => .lift (d_format_grouping ds)) := by
  refine fn_W T.F_format_grouping sc_format_grouping fun cdv A outer s H E c ds hr hl => ?_
  match ds, hl with
  | [v_grouping], _ =>
    show PSs _ _ (tE K c E [.imm v_grouping, .non] _)
    refine tE_eq (s_X (s_drop (e_call (ok_check_grouping T) (hr.mono (by decide)) rfl T.g_check_grouping T.k_check_grouping (b_check_grouping T) (passX (takes_of rfl rfl rfl rfl)) (l_cons (e_var 0 rfl (.inl rfl) rfl) (l_nil)))) (fun _ => s_ret (e_join (e_str) (e_rd (e_frz (o_lc0 (own := [("group", 1)]) rfl sc_format_grouping.nd (j_list (e_rd (e_var 0 rfl (.inl rfl) rfl))) (by kernel_rfl) (fun _ _ _ _ _ => g_name 1 sc_format_grouping.nd rfl (.inl rfl)) (fun _ _ _ _ _ a5 => e_callTy call_str_int cd_str rfl T.z_str bt_str (r_cons (e_rd (e_var 1 rfl (.inl rfl) rfl)) (r_nil))))))))) ?_
    simp only [d_format_grouping, WP.bind_ret, WP.lift_bind, WP.lift_ite, WP.lift_ok, WP.lift_comp, WP.lift_fold, WP.lift_foldS, WP.lift_whl, WP.lift_seq, WP.lift_seqE, WP.lift_noE, WP.noE_ret, WP.lift_tryc, WP.lift_compV]
theorem sc_format_groups : FnScope ["grouping", "group", "thing"] ["grouping"] (defScope s_format_groups) := ⟨rfl, rfl, rfl, by decide +kernel, rfl, by decide +kernel, by decide +kernel⟩
theorem b_format_groups (T : Tx W mg K fds) : Binds W (fds 20) ["grouping"] [] := T.F_format_groups.bindsN fun _ _ _ _ _ _ us hl => match us, hl with | [_], _ => rfl
theorem ok_format_groups (T : Tx W mg K fds) : FnOk P w W mg base (CX P w) 4 (He.ga W "format_groups") (fds 20) ["grouping"] (spW K 1 fun ds => .lift (d_format_groups ds)) := by
  refine fn_W T.F_format_groups sc_format_groups fun cdv A outer s H E c ds hr hl => ?_
  match ds, hl with
  | [v_grouping], _ =>
    show PSs _ _ (tE K c E [.imm v_grouping, .non, .non] _)
    refine tE_eq (s_X (s_drop (e_call (ok_check_grouping T) (hr.mono (by decide)) rfl T.g_check_grouping T.k_check_grouping (b_check_grouping T) (passX (takes_of rfl rfl rfl rfl)) (l_cons (e_var 0 rfl (.inl rfl) rfl) (l_nil)))) (fun _ => s_ret (e_join (e_str) (e_rd (e_frz (o_lc0 (own := [("group", 1)]) rfl sc_format_groups.nd (j_list (e_rd (e_call (ok_groups_of T) (hr.mono (by decide)) rfl T.g_groups_of T.k_groups_of (b_groups_of T) (passX (takes_of rfl rfl rfl rfl)) (l_cons (e_var 0 rfl (.inl rfl) rfl) (l_nil))))) (by kernel_rfl) (fun _ _ _ _ _ => g_name 1 sc_format_groups.nd rfl (.inl rfl)) (fun _ _ _ _ _ a7 => e_join (e_str) (e_rd (e_frz (o_lc0 (own := [("thing", 2)]) rfl sc_format_groups.nd (j_list (e_rd (e_var 1 rfl (.inl rfl) rfl))) (by kernel_rfl) (fun _ _ _ _ _ => g_name 2 sc_format_groups.nd rfl (.inl rfl)) (fun _ _ _ _ _ a9 => e_callTy call_str_int cd_str rfl T.z_str bt_str (r_cons (e_rd (e_var 2 rfl (.inl rfl) rfl)) (r_nil))))))))))))) ?_
    simp only [d_format_groups, WP.bind_ret, WP.lift_bind, WP.lift_ite, WP.lift_ok, WP.lift_comp, WP.lift_fold, WP.lift_foldS, WP.lift_whl, WP.lift_seq, WP.lift_seqE, WP.lift_noE, WP.noE_ret, WP.lift_tryc, WP.lift_compV]
theorem sc__law_groups : FnScope ["row", "group", "k"] ["row"] (defScope s__law_groups) := ⟨rfl, rfl, rfl, by decide +kernel, rfl, by decide +kernel, by decide +kernel⟩
theorem b__law_groups (T : Tx W mg K fds) : Binds W (fds 29) ["row"] [] := T.F__law_groups.bindsN fun _ _ _ _ _ _ us hl => match us, hl with | [_], _ => rfl
theorem ok__law_groups (T : Tx W mg K fds) : FnOk P w W mg base (CX P w) 1 (He.ga W "_law_groups") (fds 29) ["row"] (spW K 1 fun ds => .lift (d_law_groups ds)) := by
  refine fn_W T.F__law_groups sc__law_groups fun cdv A outer s H E c ds hr hl => ?_
  match ds, hl with
  | [v_row], _ =>
    show PSs _ _ (tE K c E [.imm v_row, .non, .non] _)
    refine tE_eq (s_ret (e_frz (o_lc0 (own := [("group", 1)]) rfl sc__law_groups.nd (j_of (i_range1 rfl T.z_range (r_cons (e_rd (e_op op_addAll od_add (e_rd (e_callB (cr_maxAll rfl) cd_max rfl T.z_max bt_max (r_cons (e_rd (e_var 0 rfl (.inr (.inl rfl)) rfl)) (r_nil)))) (e_rd (e_int)))) (r_nil)))) (by kernel_rfl) (fun _ _ _ _ _ => g_name 1 sc__law_groups.nd rfl (.inr rfl)) (fun _ _ _ _ _ a9 => e_frz (o_lc (own := [("k", 2)]) rfl sc__law_groups.nd (j_of (i_range1 rfl T.z_range (r_cons (e_rd (e_callB call_len cd_len rfl T.z_len bt_len (r_cons (e_rd (e_var 0 rfl (.inr (.inl rfl)) rfl)) (r_nil)))) (r_nil)))) (by kernel_rfl) (fun _ _ _ _ _ => g_name 2 sc__law_groups.nd rfl (.inl rfl)) (fun _ _ _ _ _ a16 => q_cmp (op_eqD hr.units) od_eq (e_rd (e_ix (ix_list.or ix_tup) od_at (e_rd (e_var 0 rfl (.inr (.inl rfl)) rfl)) (e_rd (e_var 2 rfl (.inl rfl) rfl)) (fun _ _ => rfl))) (e_rd (e_var 1 rfl (.inr (.inl rfl)) rfl)) (nomark _)) (fun _ _ _ _ _ a16 => e_var 2 rfl (.inl rfl) rfl)))))) ?_
    simp only [d_law_groups, WP.bind_ret, WP.lift_bind, WP.lift_ite, WP.lift_ok, WP.lift_comp, WP.lift_fold, WP.lift_foldS, WP.lift_whl, WP.lift_seq, WP.lift_seqE, WP.lift_noE, WP.noE_ret, WP.lift_tryc, WP.lift_compV]
theorem sc__law_written : FnScope ["kind", "row", "group", "part", "thing"] ["kind", "row"] (defScope s__law_written) := ⟨rfl, rfl, rfl, by decide +kernel, rfl, by decide +kernel, by decide +kernel⟩
theorem b__law_written (T : Tx W mg K fds) : Binds W (fds 30) ["kind", "row"] [] := T.F__law_written.bindsN fun _ _ _ _ _ _ us hl => match us, hl with | [_, _], _ => rfl
theorem ok__law_written (T : Tx W mg K fds) : FnOk P w W mg base (CX P w) 2 (He.ga W "_law_written") (fds 30) ["kind", "row"] (spW K 2 fun ds => .lift (d_law_written ds)) := by
  refine fn_W T.F__law_written sc__law_written fun cdv A outer s H E c ds hr hl => ?_
  match ds, hl with
  | [v_kind, v_row], _ =>
    show PSs _ _ (tE K c E [.imm v_kind, .imm v_row, .non, .non, .non] _)
    refine tE_eq (s_ifE (q_cmp (op_eqD hr.units) od_eq (e_rd (e_var 0 rfl (.inl rfl) rfl)) (e_rd (e_int)) (nomark _)) (s_ret (e_join (e_str) (e_rd (e_frz (o_lc0 (own := [("group", 2)]) rfl sc__law_written.nd (j_list (e_rd (e_var 1 rfl (.inl rfl) rfl))) (by kernel_rfl) (fun _ _ _ _ _ => g_name 2 sc__law_written.nd rfl (.inl rfl)) (fun _ _ _ _ _ a6 => e_callTy call_str_int cd_str rfl T.z_str bt_str (r_cons (e_rd (e_var 2 rfl (.inl rfl) rfl)) (r_nil)))))))) (s_ret (e_join (e_str) (e_rd (e_frz (o_lc0 (own := [("part", 3)]) rfl sc__law_written.nd (j_list (e_rd (e_call (ok__law_groups T) (hr.mono (by decide)) rfl T.g__law_groups T.k__law_groups (b__law_groups T) (passX (takes_of rfl rfl rfl rfl)) (l_cons (e_var 1 rfl (.inl rfl) rfl) (l_nil))))) (by kernel_rfl) (fun _ _ _ _ _ => g_name 3 sc__law_written.nd rfl (.inl rfl)) (fun _ _ _ _ _ a18 => e_join (e_str) (e_rd (e_frz (o_lc0 (own := [("thing", 4)]) rfl sc__law_written.nd (j_list (e_rd (e_var 3 rfl (.inl rfl) rfl))) (by kernel_rfl) (fun _ _ _ _ _ => g_name 4 sc__law_written.nd rfl (.inl rfl)) (fun _ _ _ _ _ a20 => e_callTy call_str_int cd_str rfl T.z_str bt_str (r_cons (e_rd (e_var 4 rfl (.inl rfl) rfl)) (r_nil))))))))))))) ?_
    simp only [d_law_written, WP.bind_ret, WP.lift_bind, WP.lift_ite, WP.lift_ok, WP.lift_comp, WP.lift_fold, WP.lift_foldS, WP.lift_whl, WP.lift_seq, WP.lift_seqE, WP.lift_noE, WP.noE_ret, WP.lift_tryc, WP.lift_compV]
theorem sc_law : FnScope ["script", "draws", "row", "texts", "kind", "turn", "own", "at", "mark", "other", "found"] ["script"] (defScope s_law) := ⟨rfl, rfl, rfl, by decide +kernel, rfl, by decide +kernel, by decide +kernel⟩
theorem b_law (T : Tx W mg K fds) : Binds W (fds 33) ["script"] [] := T.F_law.bindsN fun _ _ _ _ _ _ us hl => match us, hl with | [_], _ => rfl
theorem ok_law (T : Tx W mg K fds) {m : WP D} (hw : m = w_law) (hm : m.run (fun d => d = .bool true) fun _ => False) : FnOk P w W mg base CX0 6 (He.ga W "law") (fds 33) ["script"] (spLaw W) := by
  refine fn_law (K := K) T.F_law sc_law rfl hm (.inl rfl) (by decide) (fun cdv A outer s H E hr => pe_call (ok__law_start T) (hr.mono (by decide)) rfl T.g__law_start T.k__law_start (b__law_start T) .nil passL (pa_cons (pv 0) pa_nil)) (fun cdv A outer s H E => rfl) fun cdv A outer s H E c a b dr hr => ?_
  show PSs _ _ (tE K c E0 [.non, .val (.ref a), .non, .non, .non, .non, .non, .non, .non, .non, .non] _)
  refine tE_eq (s_X (s_asg 2 sc_law.nd rfl (.inl rfl) (e_callD 1 dr (ok__law_grouping T) (hr.mono (by decide)) rfl T.g__law_grouping T.k__law_grouping (b__law_grouping T) passL rfl (.inl rfl) rfl (l_cons (e_op op_addAll od_add (e_rd (e_int)) (e_rd (e_callD 1 dr (ok__law_draw T) (hr.mono (by decide)) rfl T.g__law_draw T.k__law_draw (b__law_draw T) passL rfl (.inl rfl) rfl (l_cons (e_int) (l_nil))))) (l_nil)))) (fun v_row1 => s_X (s_asg 3 sc_law.nd rfl (.inl rfl) (e_frz (o_list (l_cons (e_call (ok_format_grouping T) (hr.mono (by decide)) rfl T.g_format_grouping T.k_format_grouping (b_format_grouping T) passL (l_cons (e_var 2 rfl (.inl rfl) rfl) (l_nil))) (l_cons (e_call (ok_format_groups T) (hr.mono (by decide)) rfl T.g_format_groups T.k_format_groups (b_format_groups T) passL (l_cons (e_var 2 rfl (.inl rfl) rfl) (l_nil))) (l_nil)))))) (fun v_texts8 => s_S (s_forS (Ga := fun (p18 : Unit) => [.non, .val (.ref a), .imm (v_row1), .imm (v_texts8), .non, .non, .non, .non, .non, .non, .non]) (a0 := ()) PassesOwn.never rfl (i_list (e_frz (o_list (l_cons (e_int) (l_cons (e_int) (l_nil)))))) (Le.refl _) (fun _ => g_name 4 sc_law.nd rfl (.inl rfl)) (fun p18 a25 => s_ifS (PW.pt (w_or (q_cmp (op_neD hr.units) od_ne (e_rd (e_ix (ix_list.or ix_tup) od_at (e_rd (e_var 3 rfl (.inl rfl) rfl)) (e_rd (e_var 4 rfl (.inl rfl) rfl)) (fun _ _ => rfl))) (e_rd (e_call (ok__law_written T) (hr.mono (by decide)) rfl T.g__law_written T.k__law_written (b__law_written T) passL (l_cons (e_var 4 rfl (.inl rfl) rfl) (l_cons (e_var 2 rfl (.inl rfl) rfl) (l_nil))))) (nomark _)) (w_or1 (q_cmp (op_neD hr.units) od_ne (e_rd (e_call (ok__law_parsed T) (hr.mono (by decide)) rfl T.g__law_parsed T.k__law_parsed (b__law_parsed T) passL (l_cons (e_var 4 rfl (.inl rfl) rfl) (l_cons (e_ix (ix_list.or ix_tup) od_at (e_rd (e_var 3 rfl (.inl rfl) rfl)) (e_rd (e_var 4 rfl (.inl rfl) rfl)) (fun _ _ => rfl)) (l_nil))))) (e_rd (e_var 2 rfl (.inl rfl) rfl)) (nomark _))))) (s_ret (e_bl)) (s_SS (s_forS (Ga := fun (p46 : Unit) => [.non, .val (.ref a), .imm (v_row1), .imm (v_texts8), .imm (a25), .non, .non, .non, .non, .non, .non]) (a0 := ()) PassesOwn.never rfl (i_range1 rfl T.z_range (r_cons (e_rd (e_int)) (r_nil))) (Le.refl _) (fun _ => g_name 5 sc_law.nd rfl (.inl rfl)) (fun p46 a50 => s_XS (s_asg 6 sc_law.nd rfl (.inl rfl) (e_ix (ix_list.or ix_tup) od_at (e_rd (e_var 3 rfl (.inl rfl) rfl)) (e_rd (e_var 4 rfl (.inl rfl) rfl)) (fun _ _ => rfl))) (fun v_own51 => s_XS (s_asg 7 sc_law.nd rfl (.inl rfl) (e_callD 1 dr (ok__law_draw T) (hr.mono (by decide)) rfl T.g__law_draw T.k__law_draw (b__law_draw T) passL rfl (.inl rfl) rfl (l_cons (e_op op_addAll od_add (e_rd (e_callB call_len cd_len rfl T.z_len bt_len (r_cons (e_rd (e_var 6 rfl (.inl rfl) rfl)) (r_nil)))) (e_rd (e_int))) (l_nil)))) (fun v_at54 => s_XS (s_asg 8 sc_law.nd rfl (.inl rfl) (e_callD 1 dr (ok__law_pick T) (hr.mono (by decide)) rfl T.g__law_pick T.k__law_pick (b__law_pick T) passL rfl (.inl rfl) rfl (l_cons (e_frz (o_list (l_cons (e_str) (l_cons (e_str) (l_cons (e_str) (l_cons (e_str) (l_cons (e_str) (l_cons (e_str) (l_cons (e_str) (l_nil)))))))))) (l_nil)))) (fun v_mark62 => s_XS (s_asg 9 sc_law.nd rfl (.inl rfl) (e_callD 1 dr (ok__law_pick T) (hr.mono (by decide)) rfl T.g__law_pick T.k__law_pick (b__law_pick T) passL rfl (.inl rfl) rfl (l_cons (e_frz (o_list (l_cons (e_op op_addAll od_add (e_rd (e_op op_addAll od_add (e_rd (e_cutH (e_rd (e_var 6 rfl (.inl rfl) rfl)) (e_var 7 rfl (.inl rfl) rfl))) (e_rd (e_var 8 rfl (.inl rfl) rfl)))) (e_rd (e_cutL (e_rd (e_var 6 rfl (.inl rfl) rfl)) (e_op op_addAll od_add (e_rd (e_var 7 rfl (.inl rfl) rfl)) (e_rd (e_int)))))) (l_cons (e_op op_addAll od_add (e_rd (e_op op_addAll od_add (e_rd (e_cutH (e_rd (e_var 6 rfl (.inl rfl) rfl)) (e_var 7 rfl (.inl rfl) rfl))) (e_rd (e_var 8 rfl (.inl rfl) rfl)))) (e_rd (e_cutL (e_rd (e_var 6 rfl (.inl rfl) rfl)) (e_var 7 rfl (.inl rfl) rfl)))) (l_nil))))) (l_nil)))) (fun v_other80 => s_XS (s_asg 10 sc_law.nd rfl (.inl rfl) (e_call (ok__law_parsed T) (hr.mono (by decide)) rfl T.g__law_parsed T.k__law_parsed (b__law_parsed T) passL (l_cons (e_var 4 rfl (.inl rfl) rfl) (l_cons (e_var 9 rfl (.inl rfl) rfl) (l_nil))))) (fun v_found118 => s_ifS (PW.pt (w_and (q_cmp (op_neD hr.units) od_ne (e_rd (e_var 10 rfl (.inl rfl) rfl)) (e_rd (e_str)) (nomark _)) (w_and1 (q_cmp (op_neD hr.units) od_ne (e_rd (e_var 9 rfl (.inl rfl) rfl)) (e_rd (e_call (ok__law_written T) (hr.mono (by decide)) rfl T.g__law_written T.k__law_written (b__law_written T) passL (l_cons (e_var 4 rfl (.inl rfl) rfl) (l_cons (e_var 10 rfl (.inl rfl) rfl) (l_nil))))) (nomark _))))) (s_ret (e_bl)) (s_nilS (a := ()) (Le.keep (Le.keep (Le.keep (Le.keep (Le.keep (Le.drop (Le.drop (Le.drop (Le.drop (Le.drop (Le.drop Le.nil))))))))))))))))))) (fun p46 => s_nilS (a := ()) (Le.keep (Le.keep (Le.keep (Le.keep (Le.drop (Le.keep (Le.keep (Le.keep (Le.keep (Le.keep (Le.keep Le.nil))))))))))))))) (fun p18 => s_ret (e_call0 (ok__law_rejected T) (hr.mono (by decide)) rfl T.g__law_rejected T.k__law_rejected (b__law_rejected T) passL))))) ?_
  rw [hw]
  simp only [w_law, l1_law, l2_law, l3_law, l4_law, l5_law, WP.bind_ret, WP.lift_bind, WP.lift_ite, WP.lift_ok, WP.lift_comp, WP.lift_fold, WP.lift_foldS, WP.lift_whl, WP.lift_seq, WP.lift_seqE, WP.lift_noE, WP.noE_ret, WP.lift_tryc, WP.lift_compV]
end
end GT
namespace GT
open PySem PySem.Spec PyProof.Rows L2 GA GD
def D__law_start : He.DefD := ⟨("_law_start", none), "_law_start", "_law_start", defArgs s__law_start, defBody s__law_start, defScope s__law_start, [], []⟩
def D__law_draw : He.DefD := ⟨("_law_draw", none), "_law_draw", "_law_draw", defArgs s__law_draw, defBody s__law_draw, defScope s__law_draw, [], []⟩
def D__law_pick : He.DefD := ⟨("_law_pick", none), "_law_pick", "_law_pick", defArgs s__law_pick, defBody s__law_pick, defScope s__law_pick, [], []⟩
def D__law_numbered : He.DefD := ⟨("_law_numbered", none), "_law_numbered", "_law_numbered", defArgs s__law_numbered, defBody s__law_numbered, defScope s__law_numbered, [], []⟩
def D__law_grouping : He.DefD := ⟨("_law_grouping", none), "_law_grouping", "_law_grouping", defArgs s__law_grouping, defBody s__law_grouping, defScope s__law_grouping, [], []⟩
def D__law_error : He.DefD := ⟨("_law_error", none), "_law_error", "_law_error", defArgs s__law_error, defBody s__law_error, defScope s__law_error, [], []⟩
def D_check_text : He.DefD := ⟨("check_text", none), "check_text", "check_text", defArgs s_check_text, defBody s_check_text, defScope s_check_text, [], []⟩
def D_is_int : He.DefD := ⟨("is_int", none), "is_int", "is_int", defArgs s_is_int, defBody s_is_int, defScope s_is_int, [], []⟩
def D_is_grouping : He.DefD := ⟨("is_grouping", none), "is_grouping", "is_grouping", defArgs s_is_grouping, defBody s_is_grouping, defScope s_is_grouping, [], []⟩
def D_parse_grouping : He.DefD := ⟨("parse_grouping", none), "parse_grouping", "parse_grouping", defArgs s_parse_grouping, defBody s_parse_grouping, defScope s_parse_grouping, [], []⟩
def D_numbered : He.DefD := ⟨("numbered", none), "numbered", "numbered", defArgs s_numbered, defBody s_numbered, defScope s_numbered, [], []⟩
def D_grouping_of : He.DefD := ⟨("grouping_of", none), "grouping_of", "grouping_of", defArgs s_grouping_of, defBody s_grouping_of, defScope s_grouping_of, [], []⟩
def D_groups_of : He.DefD := ⟨("groups_of", none), "groups_of", "groups_of", defArgs s_groups_of, defBody s_groups_of, defScope s_groups_of, [], []⟩
def D_parse_groups : He.DefD := ⟨("parse_groups", none), "parse_groups", "parse_groups", defArgs s_parse_groups, defBody s_parse_groups, defScope s_parse_groups, [], []⟩
def D__law_parsed : He.DefD := ⟨("_law_parsed", none), "_law_parsed", "_law_parsed", defArgs s__law_parsed, defBody s__law_parsed, defScope s__law_parsed, [], []⟩
def D__law_rejected : He.DefD := ⟨("_law_rejected", none), "_law_rejected", "_law_rejected", defArgs s__law_rejected, defBody s__law_rejected, defScope s__law_rejected, [], []⟩
def D_check_grouping : He.DefD := ⟨("check_grouping", none), "check_grouping", "check_grouping", defArgs s_check_grouping, defBody s_check_grouping, defScope s_check_grouping, [], []⟩
def D_format_grouping : He.DefD := ⟨("format_grouping", none), "format_grouping", "format_grouping", defArgs s_format_grouping, defBody s_format_grouping, defScope s_format_grouping, [], []⟩
def D_format_groups : He.DefD := ⟨("format_groups", none), "format_groups", "format_groups", defArgs s_format_groups, defBody s_format_groups, defScope s_format_groups, [], []⟩
def D__law_groups : He.DefD := ⟨("_law_groups", none), "_law_groups", "_law_groups", defArgs s__law_groups, defBody s__law_groups, defScope s__law_groups, [], []⟩
def D__law_written : He.DefD := ⟨("_law_written", none), "_law_written", "_law_written", defArgs s__law_written, defBody s__law_written, defScope s__law_written, [], []⟩
def D_law : He.DefD := ⟨("law", none), "law", "law", defArgs s_law, defBody s_law, defScope s_law, [], []⟩
def fn : List He.DefD := [D__law_start, D__law_draw, D__law_pick, D__law_numbered, D__law_grouping, D__law_error, D_check_text, D_is_int, D_is_grouping, D_parse_grouping, D_numbered, D_grouping_of, D_groups_of, D_parse_groups, D__law_parsed, D__law_rejected, D_check_grouping, D_format_grouping, D_format_groups, D__law_groups, D__law_written, D_law]
def fa : List He.Fa := [.glo "BadNumber", .glo "BadPairs", .glo "GroupError", .glo "NotFound", .str "DIGITS" "0123456789", .int "MOST_THINGS" 7, .glo "BadGrouping", .exc "BadGrouping", .glo "BadText", .exc "BadText", .free "ValueError", .free "all", .free "bool", .free "enumerate", .free "int", .free "isinstance", .free "len", .free "list", .free "max", .free "range", .free "sorted", .free "str", .glo "_law_start", .glo "_law_draw", .glo "_law_pick", .glo "_law_numbered", .glo "_law_grouping", .glo "_law_error", .glo "check_text", .glo "is_int", .glo "is_grouping", .glo "parse_grouping", .glo "numbered", .glo "grouping_of", .glo "groups_of", .glo "parse_groups", .glo "_law_parsed", .glo "_law_rejected", .glo "check_grouping", .glo "format_grouping", .glo "format_groups", .glo "_law_groups", .glo "_law_written", .glo "law"]
abbrev RR : PySem.W.OpenRow := PySem.W.OpenLaw.row PySem.Challenge.rw_groupsapart_k12_whole_texts
def KK (W : PySem.W.Frag) : Nat → Addr
  | 0 => He.ga W "BadGrouping"
  | 1 => He.ga W "BadNumber"
  | 2 => He.ga W "BadPairs"
  | 3 => He.ga W "BadText"
  | 4 => He.ga W "NotFound"
  | 5 => He.ga W "GroupError"
  | _ => 0
def bx : PySem.W.Frag → Bool := fun W => exTB W (KK W)
abbrev hk : PySem.W.Hook := hookX 4 fa fn bx
def ob (s : PySem.W.SharedT) : He.AlD := obsXG 4 fa fn bx (HandSHeadRun.getT s)
theorem ob_eq (s : PySem.W.SharedT) : ob s = hk.obs s.abs := obsXG_eq (HandSHeadRun.getT_eq s)
def names : List PySem.Str := (["GroupError", "BadGrouping", "BadNumber", "BadPairs", "BadText", "NotFound", "MOST_THINGS", "is_int", "is_grouping", "check_grouping", "numbered", "groups_of", "grouping_of", "DIGITS", "check_text", "format_grouping", "parse_grouping", "format_groups", "parse_groups", "_law_start", "_law_draw", "_law_pick", "_law_error", "_law_numbered", "_law_grouping", "_law_groups", "_law_written", "_law_parsed", "_law_rejected"] : List PySem.Str)
theorem run (w : World) : HandSHeadRun.RunEq RR (PySem.W.view RR.prog [33]) hk ob 6000 names w := by
  intro os
  kernel_rfl
theorem facts {P : Program} {w : World} {W : PySem.W.Frag} {h : Heap} {mg : Str → Option Value} {f : Addr} (X : W.In h) (G : h.Ns mainGlobals mg) (hfa : mg ("law" : Str) = some (.ref f)) (c0 : SaysX fa fn bx W) {m : WP D} (hw : m = w_law) (hm : m.run (fun d => d = .bool true) fun _ => False) :
    ∃ fd : FuncData, (∀ (s : Shared) (v : Value), BindsTo s fd ⟨[v], []⟩ [("script", v)]) ∧ ∀ base : Heap, W.In base → base.Ns mainGlobals mg → FnOk P w W mg base CX0 6 f fd ["script"] (spLaw W) := by
  obtain ⟨c, cx⟩ := c0.d
  obtain ⟨fd0, F0⟩ := c.def_ 0 (d := D__law_start) rfl
  obtain ⟨fd1, F1⟩ := c.def_ 1 (d := D__law_draw) rfl
  obtain ⟨fd2, F2⟩ := c.def_ 2 (d := D__law_pick) rfl
  obtain ⟨fd3, F3⟩ := c.def_ 3 (d := D__law_numbered) rfl
  obtain ⟨fd4, F4⟩ := c.def_ 4 (d := D__law_grouping) rfl
  obtain ⟨fd5, F5⟩ := c.def_ 5 (d := D__law_error) rfl
  obtain ⟨fd6, F6⟩ := c.def_ 6 (d := D_check_text) rfl
  obtain ⟨fd7, F7⟩ := c.def_ 7 (d := D_is_int) rfl
  obtain ⟨fd8, F8⟩ := c.def_ 8 (d := D_is_grouping) rfl
  obtain ⟨fd9, F9⟩ := c.def_ 9 (d := D_parse_grouping) rfl
  obtain ⟨fd10, F10⟩ := c.def_ 10 (d := D_numbered) rfl
  obtain ⟨fd11, F11⟩ := c.def_ 11 (d := D_grouping_of) rfl
  obtain ⟨fd12, F12⟩ := c.def_ 12 (d := D_groups_of) rfl
  obtain ⟨fd13, F13⟩ := c.def_ 13 (d := D_parse_groups) rfl
  obtain ⟨fd14, F14⟩ := c.def_ 14 (d := D__law_parsed) rfl
  obtain ⟨fd15, F15⟩ := c.def_ 15 (d := D__law_rejected) rfl
  obtain ⟨fd16, F16⟩ := c.def_ 16 (d := D_check_grouping) rfl
  obtain ⟨fd17, F17⟩ := c.def_ 17 (d := D_format_grouping) rfl
  obtain ⟨fd18, F18⟩ := c.def_ 18 (d := D_format_groups) rfl
  obtain ⟨fd19, F19⟩ := c.def_ 19 (d := D__law_groups) rfl
  obtain ⟨fd20, F20⟩ := c.def_ 20 (d := D__law_written) rfl
  obtain ⟨fd21, F21⟩ := c.def_ 21 (d := D_law) rfl
  have e := hfa.symm.trans (He.glo_ok X G (c.fact 43 (f := .glo "law") rfl))
  cases e
  let fds : Nat → FuncData := fun i => match i with | 23 => fd0 | 24 => fd1 | 25 => fd2 | 27 => fd3 | 28 => fd4 | 26 => fd5 | 17 => fd6 | 8 => fd7 | 9 => fd8 | 19 => fd9 | 12 => fd10 | 14 => fd11 | 13 => fd12 | 21 => fd13 | 31 => fd14 | 32 => fd15 | 10 => fd16 | 18 => fd17 | 20 => fd18 | 29 => fd19 | 30 => fd20 | 33 => fd21 | _ => fd0
  have T : Tx W mg (KK W) fds := { g_BadNumber := He.glo_ok X G (c.fact 0 (f := .glo "BadNumber") rfl), g_BadPairs := He.glo_ok X G (c.fact 1 (f := .glo "BadPairs") rfl), g_GroupError := He.glo_ok X G (c.fact 2 (f := .glo "GroupError") rfl), g_NotFound := He.glo_ok X G (c.fact 3 (f := .glo "NotFound") rfl), c_DIGITS := He.str_ok X G (c.fact 4 (f := .str "DIGITS" "0123456789") rfl), c_MOST_THINGS := He.int_ok X G (c.fact 5 (f := .int "MOST_THINGS" 7) rfl), g_BadGrouping := He.glo_ok X G (c.fact 6 (f := .glo "BadGrouping") rfl), x_BadGrouping := He.exc_ok (c.fact 7 (f := .exc "BadGrouping") rfl), g_BadText := He.glo_ok X G (c.fact 8 (f := .glo "BadText") rfl), x_BadText := He.exc_ok (c.fact 9 (f := .exc "BadText") rfl), ex := exTB_ok cx, z_ValueError := He.free_ok X G (c.fact 10 (f := .free "ValueError") rfl), z_all := He.free_ok X G (c.fact 11 (f := .free "all") rfl), z_bool := He.free_ok X G (c.fact 12 (f := .free "bool") rfl), z_enumerate := He.free_ok X G (c.fact 13 (f := .free "enumerate") rfl), z_int := He.free_ok X G (c.fact 14 (f := .free "int") rfl), z_isinstance := He.free_ok X G (c.fact 15 (f := .free "isinstance") rfl), z_len := He.free_ok X G (c.fact 16 (f := .free "len") rfl), z_list := He.free_ok X G (c.fact 17 (f := .free "list") rfl), z_max := He.free_ok X G (c.fact 18 (f := .free "max") rfl), z_range := He.free_ok X G (c.fact 19 (f := .free "range") rfl), z_sorted := He.free_ok X G (c.fact 20 (f := .free "sorted") rfl), z_str := He.free_ok X G (c.fact 21 (f := .free "str") rfl), F__law_start := F0, g__law_start := He.glo_ok X G (c.fact 22 (f := .glo "_law_start") rfl), k__law_start := F0.kp, F__law_draw := F1, g__law_draw := He.glo_ok X G (c.fact 23 (f := .glo "_law_draw") rfl), k__law_draw := F1.kp, F__law_pick := F2, g__law_pick := He.glo_ok X G (c.fact 24 (f := .glo "_law_pick") rfl), k__law_pick := F2.kp, F__law_numbered := F3, g__law_numbered := He.glo_ok X G (c.fact 25 (f := .glo "_law_numbered") rfl), k__law_numbered := F3.kp, F__law_grouping := F4, g__law_grouping := He.glo_ok X G (c.fact 26 (f := .glo "_law_grouping") rfl), k__law_grouping := F4.kp, F__law_error := F5, g__law_error := He.glo_ok X G (c.fact 27 (f := .glo "_law_error") rfl), k__law_error := F5.kp, F_check_text := F6, g_check_text := He.glo_ok X G (c.fact 28 (f := .glo "check_text") rfl), k_check_text := F6.kp, F_is_int := F7, g_is_int := He.glo_ok X G (c.fact 29 (f := .glo "is_int") rfl), k_is_int := F7.kp, F_is_grouping := F8, g_is_grouping := He.glo_ok X G (c.fact 30 (f := .glo "is_grouping") rfl), k_is_grouping := F8.kp, F_parse_grouping := F9, g_parse_grouping := He.glo_ok X G (c.fact 31 (f := .glo "parse_grouping") rfl), k_parse_grouping := F9.kp, F_numbered := F10, g_numbered := He.glo_ok X G (c.fact 32 (f := .glo "numbered") rfl), k_numbered := F10.kp, F_grouping_of := F11, g_grouping_of := He.glo_ok X G (c.fact 33 (f := .glo "grouping_of") rfl), k_grouping_of := F11.kp, F_groups_of := F12, g_groups_of := He.glo_ok X G (c.fact 34 (f := .glo "groups_of") rfl), k_groups_of := F12.kp, F_parse_groups := F13, g_parse_groups := He.glo_ok X G (c.fact 35 (f := .glo "parse_groups") rfl), k_parse_groups := F13.kp, F__law_parsed := F14, g__law_parsed := He.glo_ok X G (c.fact 36 (f := .glo "_law_parsed") rfl), k__law_parsed := F14.kp, F__law_rejected := F15, g__law_rejected := He.glo_ok X G (c.fact 37 (f := .glo "_law_rejected") rfl), k__law_rejected := F15.kp, F_check_grouping := F16, g_check_grouping := He.glo_ok X G (c.fact 38 (f := .glo "check_grouping") rfl), k_check_grouping := F16.kp, F_format_grouping := F17, g_format_grouping := He.glo_ok X G (c.fact 39 (f := .glo "format_grouping") rfl), k_format_grouping := F17.kp, F_format_groups := F18, g_format_groups := He.glo_ok X G (c.fact 40 (f := .glo "format_groups") rfl), k_format_groups := F18.kp, F__law_groups := F19, g__law_groups := He.glo_ok X G (c.fact 41 (f := .glo "_law_groups") rfl), k__law_groups := F19.kp, F__law_written := F20, g__law_written := He.glo_ok X G (c.fact 42 (f := .glo "_law_written") rfl), k__law_written := F20.kp, F_law := F21, g_law := He.glo_ok X G (c.fact 43 (f := .glo "law") rfl), k_law := F21.kp }
  have b := b_law T
  refine ⟨fds 33, fun s v => ?_, fun base _ _ => ok_law T hw hm⟩
  exact FunD.bindsA (ps := ["script"]) T.F_law (fun _ _ _ _ _ _ us hl => match us, hl with | [_], _ => rfl) s [v] rfl
end GT
open PySem PySem.W PySem.Calls PyProof.Rows
set_option maxRecDepth 100000 in
set_option maxHeartbeats 0 in
theorem PySem.Challenge.cw_groupsapart_k12_whole_texts_holds : PySem.Challenge.rw_groupsapart_k12_whole_texts.Holds := by
  w_on; o_law
  refine HandSHeadRun.head_any (r := OpenLaw.row PySem.Challenge.rw_groupsapart_k12_whole_texts) (q := view (OpenLaw.row PySem.Challenge.rw_groupsapart_k12_whole_texts).prog [33]) (H := GT.hk) (ob := GT.ob) (M := 6000) (loose := GT.names) (d := HandSHeadRun.topDef (OpenLaw.row PySem.Challenge.rw_groupsapart_k12_whole_texts).prog 33) (kwd := []) GT.ob_eq
    (by kernel_rfl) (fun s => by kernel_rfl) GT.run (by kernel_rfl) (by kernel_rfl) (by kernel_rfl) (by rfl) (by first | assumption | decide +kernel) (by decide +kernel) ⟨rfl, rfl, rfl, rfl, rfl, by decide +kernel⟩ ?hw ?hc
  case hw => w_witness2
  case hc =>
    refine L2.walk_ofE (l := PySem.Challenge.rw_groupsapart_k12_whole_texts) (n := 63) (k := 6) (x := "script") (CX := L2.CX0) rfl (by decide) (by kernel_rfl) ⟨rfl, by decide, by decide⟩ ?F (fun _ _ _ _ z => z)
    intro w mg fa h Y G hmg0
    obtain ⟨K, KX, c⟩ := Y
    have hmg : mg ("law" : PySem.Str) = some (.ref fa) := by
      have e : (HandSHeadRun.topDef (OpenLaw.row PySem.Challenge.rw_groupsapart_k12_whole_texts).prog 33).name = ("law" : PySem.Str) := by kernel_rfl
      rw [← e]
      exact hmg0
    obtain ⟨m0, e0, h0⟩ := GM.hmX
    obtain ⟨fd, hb, hF⟩ := GT.facts (P := (PySem.Challenge.rw_groupsapart_k12_whole_texts).prog) (w := w) KX G hmg c (m := m0) e0 h0
    exact ⟨K, fd, GA.spLaw K, KX, hb, fun H a ns hl _ hS => ⟨a, ns, rfl, hS, hl, fun _ => rfl⟩, hF⟩
