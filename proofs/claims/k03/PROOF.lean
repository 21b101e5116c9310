import PyProof.Rows.All
import Wide.All
import OpenK.AllK
import Wide.FinOn
import HandS.Base
import HandS.Call
import HandS.List
import HandS.Exc
import HandS.ExcOwn
import HandS.Comp
import HandS.Words
import KE.DataEq
import HandS.Text
import HandS.TupAny
import HandS.WordsExc
import HandS.Defaults
import HandS.Iter
import HandS.Conv
import HandS.More
import HandS.Replace
import HandS.Small
import HandS.IsInst
import HandS.SortInts
import HandS.HeadHook4
import HandS.HeadEnd
import HandS.Head2
import HandS.Deep
import HandS.ExcInit
import HandS.TryMany
import HandS.NoneIn
import HandS.Steps
import HandS.ExcField
import HandS.ExcIs
import KE.KExcIs
import HandS.Property
import HandS.OwnEq
import KE.GoesMore
import HandS.Wide
import HandS.Strs
import KE.GoesSet
import PyProof.EvalArms
import HandS.SetFor
import PyProof.Rows.SetFrom
import PySem.Challenge.RW_codetables_k03_whole_depths
set_option Elab.async false
set_option linter.all false
set_option maxRecDepth 100000
set_option maxHeartbeats 4000000
/-! Pv1: plain values, the store of changing objects, what stands for what, readings by functions. -/
namespace Pv
open PySem PySem.Spec PyProof.Rows L2

/-- kinds of objects with parts -/
inductive Kd where
  | tup | lst | ins (c : Str) (ns : List Str) | dk (ks : List Key) | dt (ks : List (List Key))
  deriving DecidableEq
/-- how an object stands that doesn't change while it is looked at: for good, lent for a call, or outside (locked, or written by the text's top) -/
inductive Md where
  | own | lent | out
  deriving DecidableEq
/-- plain values: con m k xs stands for an object that doesn't change while it is looked at; ref n for the n-th changing object -/
inductive PV where
  | non | bl (b : Bool) | int (i : Int) | str (s : Str) | con (m : Md) (k : Kd) (xs : List PV) | ref (n : Nat) | fn (x : Str) | ty (n : String)
abbrev Sto := List (Option (Kd × List PV))
abbrev Gam := List (Option PV)
inductive R (α : Type) where
  | ok (a : α) (S : Sto) | ex (c : Str) (fs : List (Str × PV)) (S : Sto) | bad
def R.bind {α β : Type} (r : R α) (k : α → Sto → R β) : R β := match r with
  | .ok a S => k a S
  | .ex c fs S => .ex c fs S
  | .bad => .bad
structure G where
  F : Addr → Prop
  T : Addr → Prop
  r : Nat → Addr

def HOof (mg : Str → Option Value) : Kd → List V → HO → Prop
  | .tup, vs, o => o = .tup vs
  | .lst, vs, o => o = .lst vs
  | .ins c ns, vs, o => ∃ C dx, mg c = some (.ref C) ∧ ns.length = vs.length ∧ o = .ins C dx (ns.zip vs)
  | .dk ks, vs, o => ks.length = vs.length ∧ o = .dK (ks.zip vs)
  | .dt ks, vs, o => ks.length = vs.length ∧ o = .dT (ks.zip vs)
/-- the written part and what the module's names hold -/
structure Kx where
  K : PySem.W.Frag
  mg : Str → Option Value
def kx (X : Cx) : Kx := ⟨X.K, X.mg⟩
instance : Coe Cx Kx := ⟨kx⟩
/-- an object of the written part -/
def Wr (K : PySem.W.Frag) (a : Addr) : Kd → List V → Prop
  | .lst, xs => ∃ (o : Obj) (its : Array Value) (n : Nat), K.lookup a = some o ∧ o.cls = .type "list" ∧ o.dict = none ∧ o.data = .seq its n ∧ its.size ≤ sizeLine ∧ Vals xs its.toList
  | .tup, xs => ∃ (o : Obj) (its : Array Value) (n : Nat), K.lookup a = some o ∧ o.cls = .type "tuple" ∧ o.data = .seq its n ∧ its.size ≤ sizeLine ∧ Vals xs its.toList
  | _, _ => False
/-- what may be read at a as (k, vs) -/
def At (X : Kx) (H : Hp) (g : G) (m : Md) (a : Addr) (k : Kd) (vs : List V) : Prop := match m with
  | .own => ∃ o, HOof X.mg k vs o ∧ H a = some o ∧ (Mut (some o) → g.F a)
  | .lent => ∃ o, HOof X.mg k vs o ∧ H a = some o ∧ (Mut (some o) → g.T a)
  | .out => (∃ ob o, HOof X.mg k vs o ∧ H a = some (.frz ob o)) ∨ Wr X.K a k vs

mutual
def RV (X : Kx) (H : Hp) (g : G) (L : Nat) : PV → V → Prop
  | .non, v => v = .non
  | .bl b, v => v = .bl b
  | .int i, v => v = .int i
  | .str s, v => v = .str s
  | .con m k xs, v => ∃ a vs, v = .ref a ∧ At X H g m a k vs ∧ RVs X H g L xs vs
  | .ref n, v => n < L ∧ v = .ref (g.r n)
  | .fn x, v => ∃ a, X.mg x = some (.ref a) ∧ v = .ref a
  | .ty n, v => v = .ty n
def RVs (X : Kx) (H : Hp) (g : G) (L : Nat) : List PV → List V → Prop
  | [], vs => vs = []
  | x :: xs, vs => ∃ v r, vs = v :: r ∧ RV X H g L x v ∧ RVs X H g L xs r
end

/-- alive in the store -/
def Al (S : Sto) (n : Nat) : Prop := ∃ q, S[n]? = some (some q)
structure Rel (X : Kx) (H : Hp) (g : G) (S : Sto) : Prop where
  ob : ∀ n k xs, S[n]? = some (some (k, xs)) → ∃ o vs, H (g.r n) = some o ∧ HOof X.mg k vs o ∧ k ≠ .tup ∧ RVs X H g S.length xs vs
  inj : ∀ n m, Al S n → Al S m → g.r n = g.r m → n = m
  fF : ∀ n, Al S n → ¬ g.F (g.r n)
  fT : ∀ n, Al S n → ¬ g.T (g.r n)
  tr : ∀ a, g.F a ∨ g.T a → ∃ o, H a = some o
structure Ext (X : Kx) (H : Hp) (g : G) (S : Sto) (H' : Hp) (g' : G) (S' : Sto) : Prop where
  rel : Rel X H' g' S'
  frame : ∀ a o, H a = some o → (∀ n, Al S n → g.r n ≠ a) → H' a = some o
  old : ∀ n, Al S' n → (Al S n ∧ g'.r n = g.r n) ∨ H (g'.r n) = none
  rho : ∀ n, n < S.length → g'.r n = g.r n
  len : S.length ≤ S'.length
  fr : ∀ a, g.F a → g'.F a
  tt : g'.T = g.T
  trk : ∀ a o, H a = some o → ∃ o', H' a = some o'
  nf : ∀ a, g'.F a → g.F a ∨ H a = none ∨ ∃ n, Al S n ∧ g.r n = a

section
variable {X : Kx} {H H' H'' : Hp} {g g' g'' : G} {S S' S'' : Sto}
theorem HOof.mut {mg : Str → Option Value} {k : Kd} {vs : List V} {o : HO} (h : HOof mg k vs o) (hk : k ≠ .tup) : Mut (some o) := by
  cases k with
  | tup => exact absurd rfl hk
  | lst => cases h; exact trivial
  | ins c ns => obtain ⟨_, _, _, _, rfl⟩ := h; exact trivial
  | dk ks => obtain ⟨_, rfl⟩ := h; exact trivial
  | dt ks => obtain ⟨_, rfl⟩ := h; exact trivial
theorem Rel.mut (x : Rel X H g S) {n : Nat} (h : Al S n) : Mut (H (g.r n)) := by
  obtain ⟨⟨k, xs⟩, e⟩ := h
  obtain ⟨o, vs, e1, ho, hk, _⟩ := x.ob n k xs e
  rw [e1]
  exact ho.mut hk
/-- what is read stays -/
structure Up (H : Hp) (g : G) (L : Nat) (H' : Hp) (g' : G) (L' : Nat) : Prop where
  keep : ∀ a o, H a = some o → (Mut (some o) → g.F a ∨ g.T a) → H' a = some o
  fr : ∀ a, g.F a → g'.F a
  tt : ∀ a, g.T a → g'.T a
  rho : ∀ n, n < L → g'.r n = g.r n
  len : L ≤ L'
theorem At.mono {L L' : Nat} {m : Md} {a : Addr} {k : Kd} {vs : List V} (u : Up H g L H' g' L') (h : At X H g m a k vs) : At X H' g' m a k vs := by
  cases m with
  | own => obtain ⟨o, h1, h2, h3⟩ := h; exact ⟨o, h1, u.keep a o h2 fun z => Or.inl (h3 z), fun z => u.fr a (h3 z)⟩
  | lent => obtain ⟨o, h1, h2, h3⟩ := h; exact ⟨o, h1, u.keep a o h2 fun z => Or.inr (h3 z), fun z => u.tt a (h3 z)⟩
  | out =>
    rcases h with ⟨ob, o, h1, h2⟩ | h
    · exact Or.inl ⟨ob, o, h1, u.keep a _ h2 fun z => False.elim z⟩
    · exact Or.inr h
mutual
theorem RV.mono {L L' : Nat} (u : Up H g L H' g' L') : ∀ (p : PV) (v : V), RV X H g L p v → RV X H' g' L' p v
  | .non, _, h => h
  | .bl _, _, h => h
  | .int _, _, h => h
  | .str _, _, h => h
  | .fn _, _, h => h
  | .ty _, _, h => h
  | .ref n, v, h => by
    simp only [RV] at h ⊢
    obtain ⟨h1, h2⟩ := h
    exact ⟨Nat.lt_of_lt_of_le h1 u.len, by rw [u.rho n h1]; exact h2⟩
  | .con m k xs, v, h => by
    simp only [RV] at h ⊢
    obtain ⟨a, vs, h1, h2, h3⟩ := h
    exact ⟨a, vs, h1, h2.mono u, RVs.mono u xs vs h3⟩
theorem RVs.mono {L L' : Nat} (u : Up H g L H' g' L') : ∀ (p : List PV) (v : List V), RVs X H g L p v → RVs X H' g' L' p v
  | [], _, h => h
  | x :: xs, vs, h => by
    simp only [RVs] at h ⊢
    obtain ⟨v, r, h1, h2, h3⟩ := h
    exact ⟨v, r, h1, RV.mono u x v h2, RVs.mono u xs r h3⟩
end
theorem Ext.up (rel : Rel X H g S) (e : Ext X H g S H' g' S') : Up H g S.length H' g' S'.length where
  keep := fun a o h k => e.frame a o h fun n hn z => by
    subst z
    have m := rel.mut hn
    rw [h] at m
    rcases k m with q | q
    · exact rel.fF n hn q
    · exact rel.fT n hn q
  fr := e.fr
  tt := fun a h => by rw [e.tt]; exact h
  rho := e.rho
  len := e.len
theorem RV.up (rel : Rel X H g S) (e : Ext X H g S H' g' S') (p : PV) (v : V) (h : RV X H g S.length p v) : RV X H' g' S'.length p v := RV.mono (e.up rel) p v h
theorem RVs.up (rel : Rel X H g S) (e : Ext X H g S H' g' S') (p : List PV) (v : List V) (h : RVs X H g S.length p v) : RVs X H' g' S'.length p v := RVs.mono (e.up rel) p v h
theorem Ext.refl (rel : Rel X H g S) : Ext X H g S H g S := ⟨rel, fun _ _ h _ => h, fun _ h => Or.inl ⟨h, rfl⟩, fun _ _ => rfl, Nat.le_refl _, fun _ h => h, rfl, fun _ o h => ⟨o, h⟩, fun _ h => Or.inl h⟩
theorem Ext.trans (a : Ext X H g S H' g' S') (b : Ext X H' g' S' H'' g'' S'') : Ext X H g S H'' g'' S'' where
  rel := b.rel
  frame := fun x o h hn => b.frame x o (a.frame x o h hn) fun n hn' z => by
    rcases a.old n hn' with ⟨h1, h2⟩ | h1
    · exact hn n h1 (h2.symm.trans z)
    · rw [z, h] at h1; cases h1
  old := fun n hn => by
    rcases b.old n hn with ⟨h1, h2⟩ | h1
    · rw [h2]
      exact a.old n h1
    · cases q : H (g''.r n) with
      | none => exact Or.inr rfl
      | some o =>
        obtain ⟨o', h2⟩ := a.trk _ o q
        rw [h1] at h2; cases h2
  rho := fun n h => (b.rho n (Nat.lt_of_lt_of_le h a.len)).trans (a.rho n h)
  len := Nat.le_trans a.len b.len
  fr := fun x h => b.fr x (a.fr x h)
  tt := b.tt.trans a.tt
  trk := fun x o h => by
    obtain ⟨o', h'⟩ := a.trk x o h
    exact b.trk x o' h'
  nf := fun x h => by
    rcases b.nf x h with h | h | ⟨n, hn, rfl⟩
    · exact a.nf x h
    · cases q : H x with
      | none => exact Or.inr (Or.inl rfl)
      | some o =>
        obtain ⟨o', h2⟩ := a.trk x o q
        rw [h] at h2; cases h2
    · rcases a.old n hn with ⟨h1, h2⟩ | h1
      · exact Or.inr (Or.inr ⟨n, h1, h2.symm⟩)
      · exact Or.inr (Or.inl h1)

/-! ### slots -/
def RO (X : Kx) (H : Hp) (g : G) (L : Nat) : Option PV → Option V → Prop
  | some p, x => ∃ v, x = some v ∧ RV X H g L p v
  | none, _ => True
structure RG (X : Kx) (H : Hp) (g : G) (L : Nat) (Γ : Gam) (σ : L2.St) : Prop where
  len : Γ.length = σ.length
  at_ : ∀ (i : Nat) (p : PV), Γ[i]? = some (some p) → ∃ v, σ[i]? = some (some v) ∧ RV X H g L p v
theorem RG.up {Γ : Gam} {σ : L2.St} (rel : Rel X H g S) (e : Ext X H g S H' g' S') (h : RG X H g S.length Γ σ) : RG X H' g' S'.length Γ σ :=
  ⟨h.len, fun i p q => by
    obtain ⟨v, h1, h2⟩ := h.at_ i p q
    exact ⟨v, h1, RV.up rel e p v h2⟩⟩
theorem RG.set {Γ : Gam} {σ : L2.St} {L : Nat} {i : Nat} {p : PV} {v : V} (h : RG X H g L Γ σ) (r : RV X H g L p v) : RG X H g L (Γ.set i (some p)) (σ.set i (some v)) := by
  refine ⟨by rw [List.length_set, List.length_set]; exact h.len, fun j q e => ?_⟩
  by_cases hij : i = j
  · subst hij
    rw [List.getElem?_set] at e ⊢
    rw [if_pos rfl] at e ⊢
    by_cases hl : i < Γ.length
    · rw [if_pos hl] at e
      rw [if_pos (h.len ▸ hl)]
      cases e
      exact ⟨v, rfl, r⟩
    · rw [if_neg hl] at e; cases e
  · rw [List.getElem?_set_ne hij] at e ⊢
    exact h.at_ j q e
theorem RG.unset {Γ : Gam} {σ : L2.St} {L : Nat} {i : Nat} (h : RG X H g L Γ σ) : RG X H g L (Γ.set i none) (σ.set i none) := by
  refine ⟨by rw [List.length_set, List.length_set]; exact h.len, fun j q e => ?_⟩
  by_cases hij : i = j
  · subst hij
    rw [List.getElem?_set] at e
    rw [if_pos rfl] at e
    by_cases hl : i < Γ.length
    · rw [if_pos hl] at e; cases e
    · rw [if_neg hl] at e; cases e
  · rw [List.getElem?_set_ne hij] at e ⊢
    exact h.at_ j q e

/-! ### an exception, as plain data -/
def RX (X : Kx) (H : Hp) (g : G) (L : Nat) (c : Str) (fs : List (Str × PV)) (cls : Value) (d : Option Addr) : Prop :=
  X.mg c = some cls ∧ ((fs = [] ∧ d = none) ∨ ∃ dx vs, d = some dx ∧ H dx = some (.xd ((fs.map (·.1)).zip vs)) ∧ RVs X H g L (fs.map (·.2)) vs)

/-! ### what a result is worth, from (H, g, S) on; σ: the slots at a raise -/
def OKw {α : Type} (X : Kx) (W : WX) (σ : L2.St) (H : Hp) (g : G) (S : Sto) (r : R α) (P : α → Sto → G → Hp → Prop) : Prop := match r with
  | .ok v S' => ∀ g' H', Ext X H g S H' g' S' → P v S' g' H'
  | .ex c fs S' => ∀ g' H' cls d, Ext X H g S H' g' S' → RX X H' g' S'.length c fs cls d → W cls d σ H'
  | .bad => False
theorem OKw.bind {α β : Type} {W : WX} {σ : L2.St} {r : R α} {k : α → Sto → R β} {P : β → Sto → G → Hp → Prop} (h : OKw X W σ H g S (r.bind k) P) :
    OKw X W σ H g S r fun v S1 g1 H1 => OKw X W σ H1 g1 S1 (k v S1) P := by
  cases r with
  | ok v S1 =>
    intro g1 H1 e1
    have h : OKw X W σ H g S (k v S1) P := h
    show OKw X W σ H1 g1 S1 (k v S1) P
    cases q : k v S1 with
    | ok w S2 =>
      rw [q] at h
      exact fun g2 H2 e2 => h g2 H2 (e1.trans e2)
    | ex c fs S2 =>
      rw [q] at h
      exact fun g2 H2 cls d e2 rx => h g2 H2 cls d (e1.trans e2) rx
    | bad => rw [q] at h; exact h
  | ex c fs S1 => exact h
  | bad => exact h
theorem OKw.mono {α : Type} {W : WX} {σ : L2.St} {r : R α} {P P' : α → Sto → G → Hp → Prop} (h : OKw X W σ H g S r P) (hP : ∀ v S' g' H', r = .ok v S' → Ext X H g S H' g' S' → P v S' g' H' → P' v S' g' H') : OKw X W σ H g S r P' := by
  cases r with
  | ok v S1 => exact fun g1 H1 e1 => hP v S1 g1 H1 rfl e1 (h g1 H1 e1)
  | ex c fs S1 => exact h
  | bad => exact h

end
section
variable {X : Cx} {H H' H'' : Hp} {g g' g'' : G} {S S' S'' : Sto}
/-! ### readings by functions -/
abbrev EF := Gam → Sto → R PV
abbrev BF := Gam → Sto → R Bool
abbrev AF := Gam → Sto → R (List PV)
def lift (X : Cx) (W : WX) (t : EF) : TE := fun σ H Q => ∃ g Γ S, Rel X H g S ∧ RG X H g S.length Γ σ ∧ OKw X W σ H g S (t Γ S) fun v S' g' H' => ∀ x, RV X H' g' S'.length v x → Q x H'
def liftB (X : Cx) (W : WX) (t : BF) : TT := fun σ H Q => ∃ g Γ S, Rel X H g S ∧ RG X H g S.length Γ σ ∧ OKw X W σ H g S (t Γ S) fun b _ _ H' => Q b H'
def liftA (X : Cx) (W : WX) (t : AF) : TA := fun σ H Q => ∃ g Γ S, Rel X H g S ∧ RG X H g S.length Γ σ ∧ OKw X W σ H g S (t Γ S) fun vs S' g' H' => ∀ xs, RVs X H' g' S'.length vs xs → Q xs H'
/-- an expression computes t -/
def E (X : Cx) (W : WX) (e : Expr) (t : EF) : Prop := PE X e (lift X W t)
def B (X : Cx) (W : WX) (e : Expr) (t : BF) : Prop := PT X e (liftB X W t)
def A (X : Cx) (W : WX) (es : List Expr) (t : AF) : Prop := PA X es (liftA X W t)
theorem pe_imp {e : Expr} {t t' : TE} (h : PE X e t) (k : ∀ σ H Q, t' σ H Q → t σ H Q) : PE X e t' := ⟨fun pins s σ H Q I q => h.run pins s σ H Q I (k σ H Q q)⟩
theorem pt_imp {e : Expr} {t t' : TT} (h : PT X e t) (k : ∀ σ H Q, t' σ H Q → t σ H Q) : PT X e t' := ⟨fun pins s σ H Q I q => h.run pins s σ H Q I (k σ H Q q)⟩
theorem pa_imp {e : List Expr} {t t' : TA} (h : PA X e t) (k : ∀ σ H Q, t' σ H Q → t σ H Q) : PA X e t' := ⟨fun pos pins s σ H Q I q => h.run pos pins s σ H Q I (k σ H Q q)⟩

/-! names and constants -/
def eV (i : Nat) : EF := fun Γ S => match Γ[i]? with
  | some (some v) => .ok v S
  | _ => .bad
def eC (v : PV) : EF := fun _ S => .ok v S
variable {W : WX}
theorem OKw.ok {α : Type} {W : WX} {σ : L2.St} {v : α} {P : α → Sto → G → Hp → Prop} (rel : Rel X H g S) (h : OKw X W σ H g S (.ok v S) P) : P v S g H := h g H (Ext.refl rel)
theorem E.var {i : Nat} {x : Str} {pos : Pos} (h : PE X (.Name x pos) (tVar i)) : E X W (.Name x pos) (eV i) := pe_imp h fun σ H Q ⟨g, Γ, S, rel, rg, ok⟩ => by
  unfold eV at ok
  split at ok
  · rename_i v e
    obtain ⟨x, h1, h2⟩ := rg.at_ i v e
    exact ⟨x, h1, OKw.ok rel ok x h2⟩
  · exact ok.elim
theorem E.const {e : Expr} {v : V} {p : PV} (h : PE X e (tC v)) (hp : ∀ H g L, RV X H g L p v) : E X W e (eC p) := pe_imp h fun σ H Q ⟨g, Γ, S, rel, rg, ok⟩ => OKw.ok rel ok v (hp H g S.length)
theorem E.int {i : Int} {j pos} : E X W (.Constant (.int i) j pos) (eC (.int i)) := E.const pe_int fun _ _ _ => rfl
theorem E.bl {b : Bool} {j pos} : E X W (.Constant (.bool b) j pos) (eC (.bl b)) := E.const pe_bl fun _ _ _ => rfl
theorem E.non {j pos} : E X W (.Constant .none j pos) (eC .non) := E.const pe_non fun _ _ _ => rfl
theorem E.str {x : Str} {j pos} : E X W (.Constant (.str x) j pos) (eC (.str x)) := E.const pe_str fun _ _ _ => rfl

/-! two-place operations, by values -/
abbrev OF := PV → PV → Sto → Option (PV × Sto)
def R.of {α : Type} : Option (α × Sto) → R α
  | some (v, S) => .ok v S
  | none => .bad
def eOp (f : OF) (a b : EF) : EF := fun Γ S => (a Γ S).bind fun x S1 => (b Γ S1).bind fun y S2 => R.of (f x y S2)
/-- r may be asked where f gives a value -/
def OpF (X : Kx) (r : R2) (f : OF) : Prop := ∀ (H : Hp) (g : G) (S : Sto) (p q : PV) (x y : V) (w : PV) (S' : Sto) (Q : VK), Rel X H g S → RV X H g S.length p x → RV X H g S.length q y → f p q S = some (w, S') →
  (∀ g' H' z, Ext X H g S H' g' S' → RV X H' g' S'.length w z → Q z H') → r x y H Q
theorem lift_op {r : R2} {f : OF} {a b : EF} (hf : OpF X r f) {σ : L2.St} {H : Hp} {Q : VK} (h : lift X W (eOp f a b) σ H Q) : tOp r (lift X W a) (lift X W b) σ H Q := by
  obtain ⟨g, Γ, S, rel, rg, ok⟩ := h
  refine ⟨g, Γ, S, rel, rg, OKw.mono (OKw.bind ok) fun p S1 g1 H1 _ e1 h1 x rx => ?_⟩
  refine ⟨g1, Γ, S1, e1.rel, rg.up rel e1, OKw.mono (OKw.bind h1) fun q S2 g2 H2 _ e2 h2 y ry => ?_⟩
  cases hw : f p q S2 with
  | none => rw [hw] at h2; exact h2.elim
  | some z =>
    obtain ⟨w, S3⟩ := z
    rw [hw] at h2
    exact hf H2 g2 S2 p q x y w S3 Q e2.rel (RV.up e1.rel e2 p x rx) ry hw fun g' H' z e3 rz => h2 g' H' e3 z rz
theorem E.op {op : Operator} {r : R2} {f : OF} {a b : Expr} {ta tb : EF} {pos : Pos} (ho : OpR X (binaryOp op) r) (hf : OpF X r f) (ha : E X W a ta) (hb : E X W b tb) : E X W (.BinOp a op b pos) (eOp f ta tb) :=
  pe_imp (pe_op ho ha hb) fun _ _ _ h => lift_op hf h
end
end Pv

/-! Pv2: objects laid, changed, read; operations by values. -/
namespace Pv
open PySem PySem.Spec PyProof.Rows L2
section
variable {X : Kx} {H H' H'' : Hp} {g g' g'' : G} {S S' S'' : Sto} {W : WX}

theorem Al.lt {n : Nat} (h : Al S n) : n < S.length := by
  obtain ⟨q, e⟩ := h
  exact (List.getElem?_eq_some_iff.mp e).1
theorem Rel.tracked (rel : Rel X H g S) {n : Nat} (h : Al S n) : ∃ o, H (g.r n) = some o := by
  obtain ⟨⟨k, xs⟩, e⟩ := h
  obtain ⟨o, vs, e1, _⟩ := rel.ob n k xs e
  exact ⟨o, e1⟩

/-! ### a new object -/
def newP (m : Bool) (k : Kd) (xs : List PV) (S : Sto) : PV × Sto := if m then (.ref S.length, S ++ [some (k, xs)]) else (.con .own k xs, S)
def G.addF (g : G) (p : Addr) : G := { g with F := fun a => g.F a ∨ a = p }
def G.addR (g : G) (n : Nat) (p : Addr) : G := { g with r := fun i => if i = n then p else g.r i }
theorem up_addF {p : Addr} {o : HO} {L : Nat} (hp : H p = none) : Up H g L (upd H p o) (g.addF p) L :=
  ⟨fun a u h _ => by rw [upd_ne (ne_of_none h hp)]; exact h, fun _ h => Or.inl h, fun _ h => h, fun _ _ => rfl, Nat.le_refl _⟩
theorem up_addR {p : Addr} {o : HO} {L : Nat} (hp : H p = none) : Up H g L (upd H p o) (g.addR L p) (L + 1) :=
  ⟨fun a u h _ => by rw [upd_ne (ne_of_none h hp)]; exact h, fun _ h => h, fun _ h => h, fun n h => if_neg (Nat.ne_of_lt h), Nat.le_succ _⟩
theorem newF_ok {k : Kd} {xs : List PV} {vs : List V} {p : Addr} {o : HO} (rel : Rel X H g S) (hp : H p = none) (ho : HOof X.mg k vs o) (hr : RVs X H g S.length xs vs) :
    Ext X H g S (upd H p o) (g.addF p) S ∧ RV X (upd H p o) (g.addF p) S.length (.con .own k xs) (.ref p) := by
  have hne : ∀ n, Al S n → g.r n ≠ p := fun n hn z => by
    obtain ⟨u, e⟩ := rel.tracked hn
    rw [z, hp] at e; cases e
  refine ⟨⟨⟨fun n k' xs' e => ?_, rel.inj, fun n hn z => ?_, rel.fT, fun a z => ?_⟩, fun a u h _ => by rw [upd_ne (ne_of_none h hp)]; exact h, fun n hn => Or.inl ⟨hn, rfl⟩, fun _ _ => rfl, Nat.le_refl _, fun _ h => Or.inl h, rfl, fun a u h => ⟨u, by rw [upd_ne (ne_of_none h hp)]; exact h⟩, fun a h => h.elim Or.inl fun z => Or.inr (Or.inl (z ▸ hp))⟩, ?_⟩
  · obtain ⟨u, ws, h1, h2, h3, h4⟩ := rel.ob n k' xs' e
    exact ⟨u, ws, by show upd H p o (g.r n) = _; rw [upd_ne (hne n ⟨_, e⟩)]; exact h1, h2, h3, RVs.mono (up_addF hp) _ _ h4⟩
  · rcases z with z | z
    · exact rel.fF n hn z
    · exact hne n hn z
  · by_cases e : a = p
    · exact ⟨o, by rw [e, upd_same]⟩
    · rw [upd_ne e]
      refine rel.tr a ?_
      rcases z with (z | z) | z
      · exact Or.inl z
      · exact absurd z e
      · exact Or.inr z
  · simp only [RV]
    exact ⟨p, vs, rfl, ⟨o, ho, upd_same, fun _ => Or.inr rfl⟩, RVs.mono (up_addF hp) _ _ hr⟩
theorem newM_ok {k : Kd} {xs : List PV} {vs : List V} {p : Addr} {o : HO} (rel : Rel X H g S) (hp : H p = none) (ho : HOof X.mg k vs o) (hk : k ≠ .tup) (hr : RVs X H g S.length xs vs) :
    Ext X H g S (upd H p o) (g.addR S.length p) (S ++ [some (k, xs)]) ∧ RV X (upd H p o) (g.addR S.length p) (S ++ [some (k, xs)]).length (.ref S.length) (.ref p) := by
  have hne : ∀ n, Al S n → g.r n ≠ p := fun n hn z => by
    obtain ⟨u, e⟩ := rel.tracked hn
    rw [z, hp] at e; cases e
  have hlen : (S ++ [some (k, xs)]).length = S.length + 1 := by simp
  have hal : ∀ n, Al (S ++ [some (k, xs)]) n → (Al S n ∧ (g.addR S.length p).r n = g.r n) ∨ (n = S.length ∧ (g.addR S.length p).r n = p) := fun n hn => by
    obtain ⟨q, e⟩ := hn
    by_cases hl : n < S.length
    · rw [List.getElem?_append_left hl] at e
      exact Or.inl ⟨⟨q, e⟩, if_neg (Nat.ne_of_lt hl)⟩
    · have : n = S.length := by
        have := (List.getElem?_eq_some_iff.mp e).1
        rw [hlen] at this
        omega
      exact Or.inr ⟨this, if_pos this⟩
  refine ⟨⟨⟨fun n k' xs' e => ?_, fun n m hn hm e => ?_, fun n hn z => ?_, fun n hn z => ?_, fun a z => ?_⟩, fun a u h _ => by rw [upd_ne (ne_of_none h hp)]; exact h, fun n hn => ?_, fun n hn => if_neg (Nat.ne_of_lt hn), by rw [hlen]; exact Nat.le_succ _, fun _ h => h, rfl, fun a u h => ⟨u, by rw [upd_ne (ne_of_none h hp)]; exact h⟩, fun _ h => Or.inl h⟩, ?_⟩
  · rw [hlen]
    rcases hal n ⟨_, e⟩ with ⟨h1, h2⟩ | ⟨h1, h2⟩
    · rw [List.getElem?_append_left h1.lt] at e
      obtain ⟨u, ws, q1, q2, q3, q4⟩ := rel.ob n k' xs' e
      exact ⟨u, ws, by rw [h2, upd_ne (hne n h1)]; exact q1, q2, q3, RVs.mono (up_addR hp) _ _ q4⟩
    · subst h1
      rw [List.getElem?_append_right (Nat.le_refl _)] at e
      simp only [Nat.sub_self, List.getElem?_cons_zero, Option.some.injEq, Prod.mk.injEq] at e
      obtain ⟨e1, e2⟩ := e
      subst e1 e2
      exact ⟨o, vs, by rw [h2, upd_same], ho, hk, RVs.mono (up_addR hp) _ _ hr⟩
  · rcases hal n hn with ⟨h1, h2⟩ | ⟨h1, h2⟩
    · rcases hal m hm with ⟨h3, h4⟩ | ⟨h3, h4⟩
      · rw [h2, h4] at e
        exact rel.inj n m h1 h3 e
      · rw [h2, h4] at e
        exact absurd e (hne n h1)
    · rcases hal m hm with ⟨h3, h4⟩ | ⟨h3, h4⟩
      · rw [h2, h4] at e
        exact absurd e.symm (hne m h3)
      · exact h1.trans h3.symm
  · have z : g.F ((g.addR S.length p).r n) := z
    rcases hal n hn with ⟨h1, h2⟩ | ⟨h1, h2⟩
    · rw [h2] at z
      exact rel.fF n h1 z
    · rw [h2] at z
      obtain ⟨u, q⟩ := rel.tr p (Or.inl z)
      rw [hp] at q; cases q
  · have z : g.T ((g.addR S.length p).r n) := z
    rcases hal n hn with ⟨h1, h2⟩ | ⟨h1, h2⟩
    · rw [h2] at z
      exact rel.fT n h1 z
    · rw [h2] at z
      obtain ⟨u, q⟩ := rel.tr p (Or.inr z)
      rw [hp] at q; cases q
  · by_cases e : a = p
    · exact ⟨o, by rw [e, upd_same]⟩
    · rw [upd_ne e]
      exact rel.tr a z
  · rcases hal n hn with ⟨h1, h2⟩ | ⟨h1, h2⟩
    · exact Or.inl ⟨h1, h2⟩
    · exact Or.inr (by rw [h2]; exact hp)
  · simp only [RV]
    exact ⟨by rw [hlen]; exact Nat.lt_succ_self _, by show V.ref p = V.ref ((g.addR S.length p).r S.length); rw [show (g.addR S.length p).r S.length = p from if_pos rfl]⟩
theorem new_ok {m : Bool} {k : Kd} {xs : List PV} {vs : List V} {p : Addr} {o : HO} (rel : Rel X H g S) (hp : H p = none) (ho : HOof X.mg k vs o) (hk : k ≠ .tup) (hr : RVs X H g S.length xs vs) :
    ∃ g', Ext X H g S (upd H p o) g' (newP m k xs S).2 ∧ RV X (upd H p o) g' (newP m k xs S).2.length (newP m k xs S).1 (.ref p) := by
  cases m with
  | true => exact ⟨_, newM_ok rel hp ho hk hr⟩
  | false => exact ⟨_, newF_ok rel hp ho hr⟩

/-! ### a changing object gets another content -/
theorem set_ok {n : Nat} {k k' : Kd} {xs xs' : List PV} {vs' : List V} {o' : HO} (rel : Rel X H g S) (hn : S[n]? = some (some (k, xs))) (ho : HOof X.mg k' vs' o') (hk : k' ≠ .tup) (hr : RVs X H g S.length xs' vs') :
    Ext X H g S (upd H (g.r n) o') g (S.set n (some (k', xs'))) := by
  have an : Al S n := ⟨_, hn⟩
  have hlen : (S.set n (some (k', xs'))).length = S.length := List.length_set
  have hal : ∀ i, Al (S.set n (some (k', xs'))) i → Al S i := fun i ⟨q, e⟩ => by
    by_cases z : n = i
    · subst z; exact an
    · rw [List.getElem?_set_ne z] at e; exact ⟨q, e⟩
  have mu := rel.mut an
  have up : Up H g S.length (upd H (g.r n) o') g S.length := ⟨fun a u h z => by
    refine (upd_ne fun e => ?_).trans h
    subst e
    rw [h] at mu
    rcases z mu with z | z
    · exact rel.fF n an z
    · exact rel.fT n an z, fun _ h => h, fun _ h => h, fun _ _ => rfl, Nat.le_refl _⟩
  refine ⟨⟨fun i k2 xs2 e => ?_, fun i j hi hj e => rel.inj i j (hal i hi) (hal j hj) e, fun i hi => rel.fF i (hal i hi), fun i hi => rel.fT i (hal i hi), fun a z => ?_⟩, fun a u h z => ?_, fun i hi => Or.inl ⟨hal i hi, rfl⟩, fun _ _ => rfl, Nat.le_of_eq hlen.symm, fun _ h => h, rfl, fun a u h => ?_, fun _ h => Or.inl h⟩
  · rw [hlen]
    by_cases z : n = i
    · subst z
      rw [List.getElem?_set_self (Al.lt an)] at e
      simp only [Option.some.injEq, Prod.mk.injEq] at e
      obtain ⟨e1, e2⟩ := e
      subst e1 e2
      exact ⟨o', vs', upd_same, ho, hk, RVs.mono up _ _ hr⟩
    · rw [List.getElem?_set_ne z] at e
      obtain ⟨u, ws, q1, q2, q3, q4⟩ := rel.ob i k2 xs2 e
      exact ⟨u, ws, by rw [upd_ne fun q => z (rel.inj i n ⟨_, e⟩ an q).symm]; exact q1, q2, q3, RVs.mono up _ _ q4⟩
  · by_cases e : a = g.r n
    · exact ⟨o', by rw [e, upd_same]⟩
    · rw [upd_ne e]; exact rel.tr a z
  · rw [upd_ne fun e => z n an e.symm]; exact h
  · by_cases e : a = g.r n
    · exact ⟨o', by rw [e, upd_same]⟩
    · exact ⟨u, by rw [upd_ne e]; exact h⟩
/-- from now on it stands for good -/
theorem frz_ok {n : Nat} {k : Kd} {xs : List PV} (rel : Rel X H g S) (hn : S[n]? = some (some (k, xs))) :
    Ext X H g S H (g.addF (g.r n)) (S.set n none) ∧ RV X H (g.addF (g.r n)) (S.set n none).length (.con .own k xs) (.ref (g.r n)) := by
  have an : Al S n := ⟨_, hn⟩
  have hlen : (S.set n none).length = S.length := List.length_set
  have hal : ∀ i, Al (S.set n none) i → Al S i ∧ i ≠ n := fun i ⟨q, e⟩ => by
    by_cases z : n = i
    · subst z; rw [List.getElem?_set_self (Al.lt an)] at e; cases e
    · rw [List.getElem?_set_ne z] at e; exact ⟨⟨q, e⟩, fun h => z h.symm⟩
  have up : Up H g S.length H (g.addF (g.r n)) S.length := ⟨fun a u h _ => h, fun _ h => Or.inl h, fun _ h => h, fun _ _ => rfl, Nat.le_refl _⟩
  refine ⟨⟨⟨fun i k2 xs2 e => ?_, fun i j hi hj e => rel.inj i j (hal i hi).1 (hal j hj).1 e, fun i hi z => ?_, fun i hi => rel.fT i (hal i hi).1, fun a z => ?_⟩, fun a u h _ => h, fun i hi => Or.inl ⟨(hal i hi).1, rfl⟩, fun _ _ => rfl, Nat.le_of_eq hlen.symm, fun _ h => Or.inl h, rfl, fun a u h => ⟨u, h⟩, fun a h => h.elim Or.inl fun z => Or.inr (Or.inr ⟨n, an, z.symm⟩)⟩, ?_⟩
  · rw [hlen]
    have z : n ≠ i := fun z => (hal i ⟨_, e⟩).2 z.symm
    rw [List.getElem?_set_ne z] at e
    obtain ⟨u, ws, q1, q2, q3, q4⟩ := rel.ob i k2 xs2 e
    exact ⟨u, ws, q1, q2, q3, RVs.mono up _ _ q4⟩
  · rcases z with z | z
    · exact rel.fF i (hal i hi).1 z
    · exact (hal i hi).2 (rel.inj i n (hal i hi).1 an z)
  · rcases z with (z | z) | z
    · exact rel.tr a (Or.inl z)
    · subst z; exact rel.tracked an
    · exact rel.tr a (Or.inr z)
  · obtain ⟨u, ws, q1, q2, q3, q4⟩ := rel.ob n k xs hn
    rw [hlen]
    simp only [RV]
    exact ⟨_, ws, rfl, ⟨u, q2, q1, fun _ => Or.inr rfl⟩, RVs.mono up _ _ q4⟩

/-! ### reading -/
def deref (S : Sto) : PV → Option (Kd × List PV)
  | .con _ k xs => some (k, xs)
  | .ref n => S[n]?.join
  | _ => none
/-- what may be read at a -/
def Rdd (X : Kx) (H : Hp) (k : Kd) (vs : List V) (a : Addr) : Prop := (∃ o, HOof X.mg k vs o ∧ Rd H a o) ∨ Wr X.K a k vs
theorem At.rdd {m : Md} {a : Addr} {k : Kd} {vs : List V} (h : At X H g m a k vs) : Rdd X H k vs a := by
  cases m with
  | own => obtain ⟨o, h1, h2, _⟩ := h; exact Or.inl ⟨o, h1, Or.inl h2⟩
  | lent => obtain ⟨o, h1, h2, _⟩ := h; exact Or.inl ⟨o, h1, Or.inl h2⟩
  | out =>
    rcases h with ⟨ob, o, h1, h2⟩ | h
    · exact Or.inl ⟨o, h1, Or.inr ⟨ob, h2⟩⟩
    · exact Or.inr h
theorem join_some {n : Nat} {q : Kd × List PV} (h : S[n]?.join = some q) : S[n]? = some (some q) := by
  cases e : S[n]? with
  | none => rw [e] at h; cases h
  | some o =>
    rw [e] at h
    cases o with
    | none => cases h
    | some z => cases h; rfl
theorem deref_ok {p : PV} {x : V} {k : Kd} {xs : List PV} (rel : Rel X H g S) (rv : RV X H g S.length p x) (h : deref S p = some (k, xs)) : ∃ a vs, x = .ref a ∧ RVs X H g S.length xs vs ∧ Rdd X H k vs a := by
  cases p with
  | con m k' xs' =>
    have h : some (k', xs') = some (k, xs) := h
    cases h
    simp only [RV] at rv
    obtain ⟨a, vs, h1, h2, h3⟩ := rv
    exact ⟨a, vs, h1, h3, h2.rdd⟩
  | ref n =>
    have e := join_some h
    obtain ⟨o, vs, h1, h2, h3, h4⟩ := rel.ob n k xs e
    simp only [RV] at rv
    exact ⟨_, vs, rv.2, h4, Or.inl ⟨o, h2, Or.inl h1⟩⟩
  | non => cases h
  | bl _ => cases h
  | int _ => cases h
  | str _ => cases h
  | fn _ => cases h
  | ty _ => cases h
theorem Rdd.lst {vs : List V} {a : Addr} (h : Rdd X H .lst vs a) : SqL X.K H a vs := by
  rcases h with ⟨o, h1, h2⟩ | h
  · cases h1; exact Or.inl h2
  · exact Or.inr h
theorem Rdd.tup {vs : List V} {a : Addr} (h : Rdd X H .tup vs a) : SqT X.K H a vs := by
  rcases h with ⟨o, h1, h2⟩ | h
  · cases h1; exact Or.inl h2
  · exact Or.inr h
/-- tracked by itself -/
def derefH (S : Sto) : PV → Option (Kd × List PV)
  | .con .own k xs => some (k, xs)
  | .con .lent k xs => some (k, xs)
  | .ref n => S[n]?.join
  | _ => none
theorem derefH_ok {p : PV} {x : V} {k : Kd} {xs : List PV} (rel : Rel X H g S) (rv : RV X H g S.length p x) (h : derefH S p = some (k, xs)) : ∃ a vs o, x = .ref a ∧ RVs X H g S.length xs vs ∧ HOof X.mg k vs o ∧ H a = some o := by
  cases p with
  | con m k' xs' =>
    simp only [RV] at rv
    obtain ⟨a, vs, h1, h2, h3⟩ := rv
    cases m with
    | own => cases h; obtain ⟨o, q1, q2, _⟩ := h2; exact ⟨a, vs, o, h1, h3, q1, q2⟩
    | lent => cases h; obtain ⟨o, q1, q2, _⟩ := h2; exact ⟨a, vs, o, h1, h3, q1, q2⟩
    | out => cases h
  | ref n =>
    have e := join_some h
    obtain ⟨o, vs, h1, h2, h3, h4⟩ := rel.ob n k xs e
    simp only [RV] at rv
    exact ⟨_, vs, o, rv.2, h4, h2, h1⟩
  | non => cases h
  | bl _ => cases h
  | int _ => cases h
  | str _ => cases h
  | fn _ => cases h
  | ty _ => cases h

/-! ### rows of values -/
theorem RVs.len {L : Nat} : ∀ {xs : List PV} {vs : List V}, RVs X H g L xs vs → xs.length = vs.length
  | [], _, h => by simp only [RVs] at h; subst h; rfl
  | x :: xs, _, h => by
    simp only [RVs] at h
    obtain ⟨v, r, rfl, _, h3⟩ := h
    simp only [List.length_cons, RVs.len h3]
theorem RVs.get {L : Nat} : ∀ {xs : List PV} {vs : List V} {i : Nat} {p : PV}, RVs X H g L xs vs → xs[i]? = some p → ∃ v, vs[i]? = some v ∧ RV X H g L p v
  | [], _, _, _, _, e => by simp at e
  | x :: xs, _, i, p, h, e => by
    simp only [RVs] at h
    obtain ⟨v, r, rfl, h2, h3⟩ := h
    cases i with
    | zero => simp at e; subst e; exact ⟨v, rfl, h2⟩
    | succ i =>
      obtain ⟨w, q1, q2⟩ := RVs.get (i := i) (p := p) h3 (by simpa using e)
      exact ⟨w, by simpa using q1, q2⟩
theorem RVs.getv {L : Nat} {xs : List PV} {vs : List V} {i : Nat} {v : V} (h : RVs X H g L xs vs) (e : vs[i]? = some v) : ∃ p, xs[i]? = some p ∧ RV X H g L p v := by
  have hl := h.len
  have hi := (List.getElem?_eq_some_iff.mp e).1
  have e2 : xs[i]? = some (xs[i]'(by omega)) := List.getElem?_eq_getElem _
  obtain ⟨w, q1, q2⟩ := h.get e2
  rw [e] at q1; cases q1
  exact ⟨_, e2, q2⟩
theorem RVs.of_get {L : Nat} : ∀ {xs : List PV} {vs : List V}, xs.length = vs.length → (∀ (i : Nat) (p : PV) (v : V), xs[i]? = some p → vs[i]? = some v → RV X H g L p v) → RVs X H g L xs vs
  | [], vs, hl, _ => by
    simp only [RVs]
    cases vs with
    | nil => rfl
    | cons _ _ => simp at hl
  | x :: xs, vs, hl, h => by
    cases vs with
    | nil => simp at hl
    | cons v r =>
      simp only [RVs]
      exact ⟨v, r, rfl, h 0 x v rfl rfl, RVs.of_get (by simpa using hl) fun i p w e1 e2 => h (i + 1) p w (by simpa using e1) (by simpa using e2)⟩
theorem RVs.append {L : Nat} : ∀ {xs ys : List PV} {vs ws : List V}, RVs X H g L xs vs → RVs X H g L ys ws → RVs X H g L (xs ++ ys) (vs ++ ws)
  | [], ys, vs, ws, h, k => by simp only [RVs] at h; subst h; exact k
  | x :: xs, ys, _, ws, h, k => by
    simp only [RVs] at h
    obtain ⟨v, r, rfl, h2, h3⟩ := h
    simp only [List.cons_append, RVs]
    exact ⟨v, _, rfl, h2, RVs.append h3 k⟩
theorem RVs.nil {L : Nat} : RVs X H g L [] [] := by simp only [RVs]
theorem RVs.cons {L : Nat} {x : PV} {v : V} {xs : List PV} {vs : List V} (h : RV X H g L x v) (k : RVs X H g L xs vs) : RVs X H g L (x :: xs) (v :: vs) := by
  simp only [RVs]; exact ⟨v, vs, rfl, h, k⟩
theorem RVs.set {L : Nat} {xs : List PV} {vs : List V} {i : Nat} {p : PV} {v : V} (h : RVs X H g L xs vs) (k : RV X H g L p v) : RVs X H g L (xs.set i p) (vs.set i v) := by
  refine RVs.of_get (by simp [h.len]) fun j q w e1 e2 => ?_
  by_cases z : i = j
  · subst z
    have l1 := (List.getElem?_eq_some_iff.mp e1).1
    have l2 := (List.getElem?_eq_some_iff.mp e2).1
    rw [List.length_set] at l1 l2
    rw [List.getElem?_set_self l1] at e1
    rw [List.getElem?_set_self l2] at e2
    cases e1; cases e2; exact k
  · rw [List.getElem?_set_ne z] at e1 e2
    obtain ⟨w', q1, q2⟩ := h.get e1
    rw [e2] at q1; cases q1; exact q2
theorem RVs.take {L : Nat} {xs : List PV} {vs : List V} (n : Nat) (h : RVs X H g L xs vs) : RVs X H g L (xs.take n) (vs.take n) := by
  refine RVs.of_get (by simp [h.len]) fun j q w e1 e2 => ?_
  rw [List.getElem?_take] at e1 e2
  split at e1
  · rename_i hlt
    rw [if_pos hlt] at e2
    obtain ⟨w', q1, q2⟩ := h.get e1
    rw [e2] at q1; cases q1; exact q2
  · cases e1
theorem RVs.drop {L : Nat} {xs : List PV} {vs : List V} (n : Nat) (h : RVs X H g L xs vs) : RVs X H g L (xs.drop n) (vs.drop n) := by
  refine RVs.of_get (by simp [h.len]) fun j q w e1 e2 => ?_
  rw [List.getElem?_drop] at e1 e2
  obtain ⟨w', q1, q2⟩ := h.get e1
  rw [e2] at q1; cases q1; exact q2
theorem RVs.ints {L : Nat} : ∀ {ns : List Int} {vs : List V}, RVs X H g L (ns.map PV.int) vs → vs = ns.map V.int
  | [], _, h => by simpa only [List.map_nil, RVs] using h
  | n :: ns, _, h => by
    simp only [List.map_cons, RVs, RV] at h
    obtain ⟨v, r, rfl, rfl, h3⟩ := h
    rw [List.map_cons, RVs.ints h3]
theorem RVs.strs {L : Nat} : ∀ {ns : List Str} {vs : List V}, RVs X H g L (ns.map PV.str) vs → vs = ns.map V.str
  | [], _, h => by simpa only [List.map_nil, RVs] using h
  | n :: ns, _, h => by
    simp only [List.map_cons, RVs, RV] at h
    obtain ⟨v, r, rfl, rfl, h3⟩ := h
    rw [List.map_cons, RVs.strs h3]
theorem RVs.mk_ints {L : Nat} : ∀ (ns : List Int), RVs X H g L (ns.map PV.int) (ns.map V.int)
  | [] => RVs.nil
  | n :: ns => RVs.cons (by simp only [RV]) (RVs.mk_ints ns)
theorem RVs.mk_strs {L : Nat} : ∀ (ns : List Str), RVs X H g L (ns.map PV.str) (ns.map V.str)
  | [] => RVs.nil
  | n :: ns => RVs.cons (by simp only [RV]) (RVs.mk_strs ns)
end
end Pv

/-! Pv3: operators, comparisons, tests. -/
namespace Pv
open PySem PySem.Spec PyProof.Rows L2
section
variable {X : Cx} {Y : Kx} {H H' H'' : Hp} {g g' g'' : G} {S S' S'' : Sto} {W : WX}

theorem OpR.or {f : Value → Value → Sem Value} {r r' : R2} (h : OpR X f r) (h' : OpR X f r') : OpR X f (fun x y H Q => r x y H Q ∨ r' x y H Q) := by
  intro pins s σ H x y v u Q I rx ry q
  rcases q with q | q
  · exact h pins s σ H x y v u Q I rx ry q
  · exact h' pins s σ H x y v u Q I rx ry q
theorem RV.int_inv {L : Nat} {i : Int} {x : V} (h : RV Y H g L (.int i) x) : x = .int i := by simpa only [RV] using h
theorem RV.str_inv {L : Nat} {i : Str} {x : V} (h : RV Y H g L (.str i) x) : x = .str i := by simpa only [RV] using h
theorem RV.bl_inv {L : Nat} {i : Bool} {x : V} (h : RV Y H g L (.bl i) x) : x = .bl i := by simpa only [RV] using h
theorem RV.non_inv {L : Nat} {x : V} (h : RV Y H g L .non x) : x = .non := by simpa only [RV] using h
theorem RV.int {L : Nat} {i : Int} : RV Y H g L (.int i) (.int i) := by simp only [RV]
theorem RV.str {L : Nat} {i : Str} : RV Y H g L (.str i) (.str i) := by simp only [RV]
theorem RV.bl {L : Nat} {i : Bool} : RV Y H g L (.bl i) (.bl i) := by simp only [RV]
theorem RV.non {L : Nat} : RV Y H g L .non .non := by simp only [RV]

/-! ### arithmetic -/
def iOp (C : Int → Int → Prop) [∀ i j, Decidable (C i j)] (f : Int → Int → PV) : OF := fun p q S => match p, q with
  | .int i, .int j => if C i j then some (f i j, S) else none
  | _, _ => none
def iOp0 (f : Int → Int → PV) : OF := fun p q S => match p, q with
  | .int i, .int j => some (f i j, S)
  | _, _ => none
theorem iOp0_inv {f : Int → Int → PV} {p q : PV} {w : PV} (h : iOp0 f p q S = some (w, S')) : ∃ i j, p = .int i ∧ q = .int j ∧ w = f i j ∧ S' = S := by
  unfold iOp0 at h
  split at h
  · simp only [Option.some.injEq, Prod.mk.injEq] at h; exact ⟨_, _, rfl, rfl, h.1.symm, h.2.symm⟩
  · cases h
theorem iOp_inv {C : Int → Int → Prop} [∀ i j, Decidable (C i j)] {f : Int → Int → PV} {p q : PV} {w : PV} (h : iOp C f p q S = some (w, S')) : ∃ i j, p = .int i ∧ q = .int j ∧ C i j ∧ w = f i j ∧ S' = S := by
  unfold iOp at h
  split at h
  · split at h
    · simp only [Option.some.injEq, Prod.mk.injEq] at h; exact ⟨_, _, rfl, rfl, by assumption, h.1.symm, h.2.symm⟩
    · cases h
  · cases h
theorem opf_I0 {f : Int → Int → Int} : OpF X (rI0 fun i j => .int (f i j)) (iOp0 fun i j => .int (f i j)) := by
  intro H g S p q x y w S' Q rel rx ry h k
  obtain ⟨i, j, rfl, rfl, rfl, rfl⟩ := iOp0_inv h
  exact ⟨i, j, rx.int_inv, ry.int_inv, k g H _ (Ext.refl rel) RV.int⟩
theorem opf_B0 {f : Int → Int → Bool} : OpF X (rI0 fun i j => .bl (f i j)) (iOp0 fun i j => .bl (f i j)) := by
  intro H g S p q x y w S' Q rel rx ry h k
  obtain ⟨i, j, rfl, rfl, rfl, rfl⟩ := iOp0_inv h
  exact ⟨i, j, rx.int_inv, ry.int_inv, k g H _ (Ext.refl rel) RV.bl⟩
theorem opf_I {C : Int → Int → Prop} [∀ i j, Decidable (C i j)] {f : Int → Int → Int} : OpF X (rI C fun i j => .int (f i j)) (iOp C fun i j => .int (f i j)) := by
  intro H g S p q x y w S' Q rel rx ry h k
  obtain ⟨i, j, rfl, rfl, c, rfl, rfl⟩ := iOp_inv h
  exact ⟨i, j, rx.int_inv, ry.int_inv, c, k g H _ (Ext.refl rel) RV.int⟩
instance (i j : Int) : Decidable (CDiv i j) := inferInstanceAs (Decidable (_ ∧ _))
instance (i j : Int) : Decidable (CPow i j) := inferInstanceAs (Decidable (_ ∧ _ ∧ _))
instance (i j : Int) : Decidable (CMul i j) := inferInstanceAs (Decidable (_ ∨ _))
abbrev subF : OF := iOp0 fun i j => .int (i - j)
abbrev fdivF : OF := iOp CDiv fun i j => .int (i / j)
abbrev modF : OF := iOp (fun _ j => 0 < j) fun i j => .int (i % j)
abbrev powF : OF := iOp CPow fun i j => .int (i ^ j.toNat)
abbrev ltF : OF := iOp0 fun i j => .bl (decide (i < j))
abbrev leF : OF := iOp0 fun i j => .bl (decide (i ≤ j))
abbrev gtF : OF := iOp0 fun i j => .bl (decide (j < i))
abbrev geF : OF := iOp0 fun i j => .bl (decide (j ≤ i))
def mulF (m : Bool) : OF := fun p q S => match p, q with
  | .int i, .int j => if CMul i j then some (.int (i * j), S) else none
  | p, .int k => match derefH S p with
    | some (.lst, xs) => if -(2 ^ 63) ≤ k ∧ k < 2 ^ 63 ∧ xs.length * k.toNat ≤ sizeLine then some (newP m .lst (List.replicate k.toNat xs).flatten S) else none
    | _ => none
  | _, _ => none
theorem RVs.rep {L : Nat} {xs : List PV} {vs : List V} (h : RVs Y H g L xs vs) : ∀ n, RVs Y H g L (List.replicate n xs).flatten (List.replicate n vs).flatten
  | 0 => RVs.nil
  | n + 1 => by
    rw [List.replicate_succ, List.replicate_succ, List.flatten_cons, List.flatten_cons]
    exact h.append (h.rep n)
theorem opf_mul {m : Bool} : OpF X (fun x y H Q => rI CMul (fun i j => .int (i * j)) x y H Q ∨ rRep x y H Q) (mulF m) := by
  intro H g S p q x y w S' Q rel rx ry h k
  unfold mulF at h
  split at h
  · split at h
    · simp only [Option.some.injEq, Prod.mk.injEq] at h
      obtain ⟨rfl, rfl⟩ := h
      exact Or.inl ⟨_, _, rx.int_inv, ry.int_inv, by assumption, k g H _ (Ext.refl rel) RV.int⟩
    · cases h
  · split at h
    · rename_i xs e
      split at h
      · rename_i c
        obtain ⟨a, vs, o, rfl, h2, h3, h4⟩ := derefH_ok rel rx e
        cases h3
        refine Or.inr ⟨a, _, vs, rfl, ry.int_inv, h4, c.1, c.2.1, by rw [← h2.len]; exact c.2.2, fun l hl => ?_⟩
        obtain ⟨g', e1, e2⟩ := new_ok (m := m) rel hl (k := .lst) (o := .lst _) rfl (by decide) (h2.rep _)
        simp only [Option.some.injEq] at h
        rw [h] at e1 e2
        exact k g' _ _ e1 e2
      · cases h
    · cases h
  · cases h
theorem or_mul : OpR X (binaryOp .Mult) (fun x y H Q => rI CMul (fun i j => .int (i * j)) x y H Q ∨ rRep x y H Q) := OpR.or op_mul op_rep
def addF (m : Bool) : OF := fun p q S => match p, q with
  | .int i, .int j => some (.int (i + j), S)
  | .str a, .str b => if a.length + b.length ≤ sizeLine then some (.str (a ++ b), S) else none
  | p, q => match derefH S p, derefH S q with
    | some (.lst, xs), some (.lst, ys) => if xs.length + ys.length ≤ sizeLine then some (newP m .lst (xs ++ ys) S) else none
    | some (.tup, xs), some (.tup, ys) => if xs ≠ [] ∧ xs.length + ys.length ≤ sizeLine then some (.con .own .tup (xs ++ ys), S) else none
    | _, _ => none
theorem opf_add {m : Bool} : OpF X (fun x y H Q => (rI0 (fun i j => .int (i + j)) x y H Q ∨ ∃ i j, x = .str i ∧ y = .str j ∧ i.length + j.length ≤ sizeLine ∧ Q (.str (i ++ j)) H) ∨ (rCat x y H Q ∨ rCatT X.K x y H Q)) (addF m) := by
  intro H g S p q x y w S' Q rel rx ry h k
  unfold addF at h
  split at h
  · simp only [Option.some.injEq, Prod.mk.injEq] at h
    obtain ⟨rfl, rfl⟩ := h
    exact Or.inl (Or.inl ⟨_, _, rx.int_inv, ry.int_inv, k g H _ (Ext.refl rel) RV.int⟩)
  · split at h
    · simp only [Option.some.injEq, Prod.mk.injEq] at h
      obtain ⟨rfl, rfl⟩ := h
      exact Or.inl (Or.inr ⟨_, _, rx.str_inv, ry.str_inv, by assumption, k g H _ (Ext.refl rel) RV.str⟩)
    · cases h
  · split at h
    · rename_i xs ys e1 e2
      split at h
      · rename_i c
        obtain ⟨a, vs, o, rfl, h2, h3, h4⟩ := derefH_ok rel rx e1
        obtain ⟨b, ws, o', rfl, q2, q3, q4⟩ := derefH_ok rel ry e2
        cases h3
        cases q3
        refine Or.inr (Or.inl ⟨a, b, vs, ws, rfl, rfl, h4, q4, by rw [← h2.len, ← q2.len]; exact c, fun l hl => ?_⟩)
        obtain ⟨g', z1, z2⟩ := new_ok (m := m) rel hl (k := .lst) (o := .lst _) rfl (by decide) (h2.append q2)
        simp only [Option.some.injEq] at h
        rw [h] at z1 z2
        exact k g' _ _ z1 z2
      · cases h
    · rename_i xs ys e1 e2
      split at h
      · rename_i c
        obtain ⟨a, vs, o, rfl, h2, h3, h4⟩ := derefH_ok rel rx e1
        obtain ⟨b, ws, o', rfl, q2, q3, q4⟩ := derefH_ok rel ry e2
        cases h3
        cases q3
        simp only [Option.some.injEq, Prod.mk.injEq] at h
        obtain ⟨rfl, rfl⟩ := h
        refine Or.inr (Or.inr ⟨a, b, vs, ws, rfl, rfl, SqT.of h4, SqT.of q4, fun z => c.1 ?_, by rw [← h2.len, ← q2.len]; exact c.2, fun z => ?_, fun _ l hl => ?_⟩)
        · have := h2.len
          rw [z] at this
          exact List.eq_nil_of_length_eq_zero this
        · have : ys = [] := List.eq_nil_of_length_eq_zero (by rw [q2.len, z]; rfl)
          subst this z
          refine k g H _ (Ext.refl rel) ?_
          simp only [RV, List.append_nil]
          exact ⟨a, vs, rfl, ⟨_, rfl, h4, fun z => False.elim z⟩, h2⟩
        · obtain ⟨z1, z2⟩ := newF_ok rel hl (k := .tup) (o := .tup _) rfl (h2.append q2)
          exact k _ _ _ z1 z2
      · cases h
    · cases h
theorem or_add : OpR X (binaryOp .Add) (fun x y H Q => (rI0 (fun i j => .int (i + j)) x y H Q ∨ ∃ i j, x = .str i ∧ y = .str j ∧ i.length + j.length ≤ sizeLine ∧ Q (.str (i ++ j)) H) ∨ (rCat x y H Q ∨ rCatT X.K x y H Q)) :=
  OpR.or (OpR.or op_add op_add_str) (OpR.or op_cat op_catT)
section
variable {a b c : Expr} {ta tb tc : EF} {pos : Pos}
theorem E.add (m : Bool) (ha : E X W a ta) (hb : E X W b tb) : E X W (.BinOp a .Add b pos) (eOp (addF m) ta tb) := E.op or_add opf_add ha hb
theorem E.mul (m : Bool) (ha : E X W a ta) (hb : E X W b tb) : E X W (.BinOp a .Mult b pos) (eOp (mulF m) ta tb) := E.op or_mul opf_mul ha hb
theorem E.sub (ha : E X W a ta) (hb : E X W b tb) : E X W (.BinOp a .Sub b pos) (eOp subF ta tb) := E.op op_sub opf_I0 ha hb
theorem E.fdiv (ha : E X W a ta) (hb : E X W b tb) : E X W (.BinOp a .FloorDiv b pos) (eOp fdivF ta tb) := E.op op_fdiv opf_I ha hb
theorem E.mod (ha : E X W a ta) (hb : E X W b tb) : E X W (.BinOp a .Mod b pos) (eOp modF ta tb) := E.op op_mod opf_I ha hb
theorem E.pow (ha : E X W a ta) (hb : E X W b tb) : E X W (.BinOp a .Pow b pos) (eOp powF ta tb) := E.op op_pow opf_I ha hb
end

/-! ### data at any depth -/
def toPD : Nat → Sto → PV → Option PyData
  | 0, _, _ => none
  | n + 1, S, p => match p with
    | .non => some .none
    | .bl b => some (.bool b)
    | .int i => some (.int i)
    | .str s => some (.str s)
    | p => match deref S p with
      | some (.lst, xs) => (xs.mapM (toPD n S)).map .list
      | some (.tup, xs) => (xs.mapM (toPD n S)).map .tuple
      | _ => none
theorem dp_all {f : PV → Option PyData} (rel : Rel X H g S) (hf : ∀ p x d, RV X H g S.length p x → f p = some d → Dp X.K H x d) : ∀ {xs : List PV} {vs : List V} {ds : List PyData}, RVs X H g S.length xs vs → xs.mapM f = some ds → DpAll X.K H vs ds
  | [], vs, ds, h, e => by
    simp only [RVs] at h
    subst h
    simp at e
    subst e
    exact .nil
  | x :: xs, vs, ds, h, e => by
    simp only [RVs] at h
    obtain ⟨v, r, rfl, h2, h3⟩ := h
    simp only [List.mapM_cons, Option.bind_eq_bind, Option.bind_eq_some_iff, Option.pure_def, Option.some.injEq] at e
    obtain ⟨d, e1, es, e2, rfl⟩ := e
    exact .cons (hf x v d h2 e1) (dp_all rel hf h3 e2)
theorem toPD_ok (rel : Rel X H g S) : ∀ (n : Nat) (p : PV) (x : V) (d : PyData), RV X H g S.length p x → toPD n S p = some d → Dp X.K H x d
  | 0, _, _, _, _, e => by simp [toPD] at e
  | n + 1, p, x, d, h, e => by
    simp only [toPD] at e
    split at e
    · cases e; rw [h.non_inv]; exact .non
    · cases e; rw [h.bl_inv]; exact .bl _
    · cases e; rw [h.int_inv]; exact .int _
    · cases e; rw [h.str_inv]; exact .str _
    · split at e
      · rename_i xs hd
        obtain ⟨a, vs, rfl, h2, h3⟩ := deref_ok rel h hd
        simp only [Option.map_eq_some_iff] at e
        obtain ⟨ds, e1, rfl⟩ := e
        exact .lst h3.lst (dp_all rel (toPD_ok rel n) h2 e1)
      · rename_i xs hd
        obtain ⟨a, vs, rfl, h2, h3⟩ := deref_ok rel h hd
        simp only [Option.map_eq_some_iff] at e
        obtain ⟨ds, e1, rfl⟩ := e
        exact .tup h3.tup (dp_all rel (toPD_ok rel n) h2 e1)
      · cases e
/-- == -/
def eqB (S : Sto) (p q : PV) : Option Bool := match p, q with
  | .int i, .int j => some (decide (i = j))
  | .str i, .str j => some (decide (i = j))
  | .non, .non => some true
  | .bl i, .bl j => some (decide (i = j))
  | p, q => match toPD 9 S p, toPD 9 S q with
    | some d, some e => some (PyData.eqv d e)
    | _, _ => none
/-- data as toPD gives it -/
def Pl (d : PyData) : Prop := d.plain = true ∧ d.depth ≤ 9
theorem plain_all : ∀ {n : Nat} {f : PV → Option PyData}, (∀ p d, f p = some d → d.plain = true ∧ d.depth ≤ n) → ∀ {xs : List PV} {ds : List PyData}, xs.mapM f = some ds → PyData.plainAll ds = true ∧ PyData.depthAll ds ≤ n
  | n, f, hf, [], ds, e => by
    simp at e
    subst e
    exact ⟨rfl, Nat.zero_le _⟩
  | n, f, hf, x :: xs, ds, e => by
    simp only [List.mapM_cons, Option.bind_eq_bind, Option.bind_eq_some_iff, Option.pure_def, Option.some.injEq] at e
    obtain ⟨d, e1, es, e2, rfl⟩ := e
    obtain ⟨h1, h2⟩ := hf x d e1
    obtain ⟨h3, h4⟩ := plain_all hf e2
    exact ⟨by simp only [PyData.plainAll, h1, h3, Bool.and_self], by simp only [PyData.depthAll]; omega⟩
theorem toPD_plain : ∀ (n : Nat) (p : PV) (d : PyData), toPD n S p = some d → d.plain = true ∧ d.depth ≤ n
  | 0, _, _, e => by simp [toPD] at e
  | n + 1, p, d, e => by
    simp only [toPD] at e
    split at e
    · cases e; exact ⟨rfl, Nat.zero_le _⟩
    · cases e; exact ⟨rfl, Nat.zero_le _⟩
    · cases e; exact ⟨rfl, Nat.zero_le _⟩
    · cases e; exact ⟨rfl, Nat.zero_le _⟩
    · split at e
      · simp only [Option.map_eq_some_iff] at e
        obtain ⟨ds, e1, rfl⟩ := e
        obtain ⟨h1, h2⟩ := plain_all (toPD_plain n) e1
        exact ⟨h1, by simp only [PyData.depth]; omega⟩
      · simp only [Option.map_eq_some_iff] at e
        obtain ⟨ds, e1, rfl⟩ := e
        obtain ⟨h1, h2⟩ := plain_all (toPD_plain n) e1
        exact ⟨h1, by simp only [PyData.depth]; omega⟩
      · cases e
def rEqP (K : PySem.W.Frag) : R2 := fun x y H Q => ∃ d e, Dp K H x d ∧ Dp K H y e ∧ Pl d ∧ Pl e ∧ Q (.bl (PyData.eqv d e)) H
def rNeP (K : PySem.W.Frag) : R2 := fun x y H Q => ∃ d e, Dp K H x d ∧ Dp K H y e ∧ Pl d ∧ Pl e ∧ Q (.bl (!PyData.eqv d e)) H
theorem op_eqP (hu : X.A.units + 64 < cLine) : OpR X (compareOp .Eq) (rEqP X.K) := by
  intro pins s σ H x y v u Q I rx ry h
  obtain ⟨d, e, hd, he, sd, se, q⟩ := h
  obtain ⟨as, r1⟩ := Dp.reads I d x v hd rx
  obtain ⟨bs, r2⟩ := Dp.reads I e y u he ry
  have := sd.2
  exact SeqAt.eq_plain r1 r2 sd.1 se.1 (by omega) ⟨.bl _, H, I, rfl, q⟩
theorem op_neP (hu : X.A.units + 64 < cLine) : OpR X (compareOp .NotEq) (rNeP X.K) := by
  intro pins s σ H x y v u Q I rx ry h
  obtain ⟨d, e, hd, he, sd, se, q⟩ := h
  obtain ⟨as, r1⟩ := Dp.reads I d x v hd rx
  obtain ⟨bs, r2⟩ := Dp.reads I e y u he ry
  have := sd.2
  exact SeqAt.ne_plain r1 r2 sd.1 se.1 (by omega) ⟨.bl _, H, I, rfl, q⟩
def eqF : OF := fun p q S => (eqB S p q).map fun b => (.bl b, S)
def neF : OF := fun p q S => (eqB S p q).map fun b => (.bl (!b), S)
theorem eqB_ok {r : R2} {fb : Bool → Bool} (hs : ∀ x y H Q, scal x y = true → Q (.bl (fb (decide (x = y)))) H → r x y H Q) (hd : ∀ x y d e H Q, Dp X.K H x d → Dp X.K H y e → Pl d → Pl e → Q (.bl (fb (PyData.eqv d e))) H → r x y H Q) :
    OpF X r (fun p q S => (eqB S p q).map fun b => (.bl (fb b), S)) := by
  intro H g S p q x y w S' Q rel rx ry h k
  simp only [Option.map_eq_some_iff, Prod.mk.injEq] at h
  obtain ⟨b, h, rfl, rfl⟩ := h
  have q0 := k g H _ (Ext.refl rel) RV.bl
  unfold eqB at h
  split at h
  · cases h
    rw [rx.int_inv, ry.int_inv]
    refine hs _ _ _ _ rfl ?_
    rw [dec_int, Bool.beq_eq_decide_eq]
    exact q0
  · cases h
    rw [rx.str_inv, ry.str_inv]
    refine hs _ _ _ _ rfl ?_
    rw [dec_str, Bool.beq_eq_decide_eq]
    exact q0
  · cases h
    rw [rx.non_inv, ry.non_inv]
    refine hs _ _ _ _ rfl ?_
    rw [decide_eq_true rfl]
    exact q0
  · cases h
    rw [rx.bl_inv, ry.bl_inv]
    refine hs _ _ _ _ rfl ?_
    rw [dec_bl, Bool.beq_eq_decide_eq]
    exact q0
  · split at h
    · rename_i d e hd1 he1
      cases h
      exact hd _ _ d e _ _ (toPD_ok rel 9 _ _ _ rx hd1) (toPD_ok rel 9 _ _ _ ry he1) (toPD_plain 9 _ _ hd1) (toPD_plain 9 _ _ he1) q0
    · cases h
theorem opf_eq : OpF X (fun x y H Q => rEq x y H Q ∨ rEqP X.K x y H Q) eqF :=
  eqB_ok (fb := fun b => b) (fun x y H Q h q => Or.inl ⟨h, q⟩) fun x y d e H Q h1 h2 h3 h4 q => Or.inr ⟨d, e, h1, h2, h3, h4, q⟩
theorem opf_ne : OpF X (fun x y H Q => rNe x y H Q ∨ rNeP X.K x y H Q) neF :=
  eqB_ok (fb := fun b => !b) (fun x y H Q h q => Or.inl ⟨h, q⟩) fun x y d e H Q h1 h2 h3 h4 q => Or.inr ⟨d, e, h1, h2, h3, h4, q⟩
theorem or_eq (hu : X.A.units + 64 < cLine) : OpR X (compareOp .Eq) (fun x y H Q => rEq x y H Q ∨ rEqP X.K x y H Q) := OpR.or op_eq (op_eqP hu)
theorem or_ne (hu : X.A.units + 64 < cLine) : OpR X (compareOp .NotEq) (fun x y H Q => rNe x y H Q ∨ rNeP X.K x y H Q) := OpR.or op_ne (op_neP hu)

/-! ### in -/
def flatP : PV → Bool
  | .non => true
  | .bl _ => true
  | .int _ => true
  | .str _ => true
  | _ => false
def eqP : PV → PV → Bool
  | .non, .non => true
  | .bl a, .bl b => a == b
  | .bl a, .int b => (if a then 1 else 0) == b
  | .int a, .bl b => a == (if b then 1 else 0)
  | .int a, .int b => a == b
  | .str a, .str b => a == b
  | _, _ => false
theorem flat_rv {L : Nat} {p : PV} {x : V} (h : RV X H g L p x) (f : flatP p = true) : flatV x = true := by
  cases p with
  | non => rw [h.non_inv] <;> rfl
  | bl _ => rw [h.bl_inv] <;> rfl
  | int _ => rw [h.int_inv] <;> rfl
  | str _ => rw [h.str_inv] <;> rfl
  | con _ _ _ => cases f
  | ref _ => cases f
  | fn _ => cases f
  | ty _ => cases f
theorem eqP_rv {L : Nat} {p q : PV} {x y : V} (h : RV X H g L p x) (h' : RV X H g L q y) (f : flatP p = true) (f' : flatP q = true) : L2.eqV x y = eqP p q := by
  cases p <;> cases q <;> first
    | (simp [flatP] at f; done)
    | (simp [flatP] at f'; done)
    | (simp only [RV] at h h'; subst h h'; simp only [L2.eqV, eqP])
theorem inP_rv {L : Nat} {p : PV} {x : V} (h : RV X H g L p x) (f : flatP p = true) : ∀ {xs : List PV} {vs : List V}, RVs X H g L xs vs → xs.all flatP = true → vs.all flatV = true ∧ inV x vs = xs.any (fun y => eqP y p)
  | [], vs, k, _ => by
    simp only [RVs] at k
    subst k
    exact ⟨rfl, rfl⟩
  | q :: xs, vs, k, fs => by
    simp only [RVs] at k
    obtain ⟨v, r, rfl, k2, k3⟩ := k
    simp only [List.all_cons, Bool.and_eq_true] at fs
    obtain ⟨i1, i2⟩ := inP_rv h f k3 fs.2
    refine ⟨by simp only [List.all_cons, Bool.and_eq_true]; exact ⟨flat_rv k2 fs.1, i1⟩, ?_⟩
    unfold inV at i2 ⊢
    rw [List.any_cons, List.any_cons, i2, eqP_rv k2 h fs.1 f]
def inB (S : Sto) (p q : PV) : Option Bool := match p, q with
  | .str c, .str z => match c.cps.toList with
    | [n] => some (decide (n ∈ z.cps.toList))
    | _ => none
  | p, q => match deref S q with
    | some (k, ys) => if (k = .lst ∨ k = .tup) ∧ flatP p = true ∧ ys.all flatP = true then some (ys.any fun y => eqP y p)
      else if k = .lst ∨ k = .tup then match toPD 9 S p, ys.mapM (toPD 8 S) with
        | some d, some ds => some (ds.any fun z => PyData.eqv z d)
        | _, _ => none
      else none
    | _ => none
def inF : OF := fun p q S => (inB S p q).map fun b => (.bl b, S)
def ninF : OF := fun p q S => (inB S p q).map fun b => (.bl (!b), S)
theorem one_sign {c : Str} {n : Nat} (h : c.cps.toList = [n]) : c = ⟨#[n]⟩ := by
  obtain ⟨a⟩ := c
  have : a = #[n] := by
    have h : a.toList = [n] := h
    rw [← Array.toArray_toList (xs := a), h]
  rw [this]
theorem inB_ok {r : R2} {fb : Bool → Bool} (hs : ∀ c z H Q, Q (.bl (fb (decide (c ∈ z.cps.toList)))) H → r (.str ⟨#[c]⟩) (.str z) H Q)
    (hf : ∀ x p ys H Q, (SqL X.K H p ys ∨ SqT X.K H p ys) → flatV x = true → ys.all flatV = true → Q (.bl (fb (inV x ys))) H → r x (.ref p) H Q)
    (hd : ∀ x y d ds H Q, Dp X.K H x d → (Dp X.K H y (.list ds) ∨ Dp X.K H y (.tuple ds)) → Pl d → PyData.plainAll ds = true → Q (.bl (fb (ds.any fun z => PyData.eqv z d))) H → r x y H Q) :
    OpF X r (fun p q S => (inB S p q).map fun b => (.bl (fb b), S)) := by
  intro H g S p q x y w S' Q rel rx ry h k
  simp only [Option.map_eq_some_iff, Prod.mk.injEq] at h
  obtain ⟨b, h, rfl, rfl⟩ := h
  have q0 := k g H _ (Ext.refl rel) RV.bl
  unfold inB at h
  split at h
  · split at h
    · rename_i n e
      cases h
      rw [rx.str_inv, ry.str_inv, one_sign e]
      exact hs _ _ _ _ q0
    · cases h
  · split at h
    · rename_i k ys e
      obtain ⟨a, vs, rfl, h2, h3⟩ := deref_ok rel ry e
      split at h
      · rename_i c
        cases h
        obtain ⟨i1, i2⟩ := inP_rv rx c.2.1 h2 c.2.2
        refine hf _ a vs _ _ ?_ (flat_rv rx c.2.1) i1 (by rw [i2]; exact q0)
        rcases c.1 with rfl | rfl
        · exact Or.inl h3.lst
        · exact Or.inr h3.tup
      · split at h
        · rename_i hk
          split at h
          · rename_i d ds e1 e2
            cases h
            refine hd _ _ d ds _ _ (toPD_ok rel 9 _ _ _ rx e1) ?_ (toPD_plain 9 _ _ e1) (plain_all (toPD_plain 8) e2).1 q0
            rcases hk with rfl | rfl
            · exact Or.inl (.lst h3.lst (dp_all rel (toPD_ok rel 8) h2 e2))
            · exact Or.inr (.tup h3.tup (dp_all rel (toPD_ok rel 8) h2 e2))
          · cases h
        · cases h
    · cases h
end
end Pv

/-! Pv4: expressions. -/
namespace Pv
open PySem PySem.Spec PyProof.Rows L2
section
variable {X : Cx} {H H' H'' : Hp} {g g' g'' : G} {S S' S'' : Sto} {W : WX} {a b c e o : Expr} {es rest : List Expr} {ta tb tc to : EF} {pos : Pos}

/-! ### comparisons -/
theorem E.cmp {op : CmpOp} {r : R2} {f : OF} (ho : OpR X (compareOp op) r) (hf : OpF X r f) (ha : E X W a ta) (hb : E X W b tb) (hm : behindInMarks op b = false) : E X W (.Compare a [op] [b] pos) (eOp f ta tb) :=
  pe_imp (pe_cmpR ho ha hb hm) fun _ _ _ h => lift_op hf h
theorem E.lt (ha : E X W a ta) (hb : E X W b tb) : E X W (.Compare a [.Lt] [b] pos) (eOp ltF ta tb) := E.cmp op_lt opf_B0 ha hb (nomark _)
theorem E.le (ha : E X W a ta) (hb : E X W b tb) : E X W (.Compare a [.LtE] [b] pos) (eOp leF ta tb) := E.cmp op_le opf_B0 ha hb (nomark _)
theorem E.gt (ha : E X W a ta) (hb : E X W b tb) : E X W (.Compare a [.Gt] [b] pos) (eOp gtF ta tb) := E.cmp op_gt opf_B0 ha hb (nomark _)
theorem E.ge (ha : E X W a ta) (hb : E X W b tb) : E X W (.Compare a [.GtE] [b] pos) (eOp geF ta tb) := E.cmp op_ge opf_B0 ha hb (nomark _)
theorem E.eq (hu : X.A.units + 64 < cLine) (ha : E X W a ta) (hb : E X W b tb) : E X W (.Compare a [.Eq] [b] pos) (eOp eqF ta tb) := E.cmp (or_eq hu) opf_eq ha hb (nomark _)
theorem E.ne (hu : X.A.units + 64 < cLine) (ha : E X W a ta) (hb : E X W b tb) : E X W (.Compare a [.NotEq] [b] pos) (eOp neF ta tb) := E.cmp (or_ne hu) opf_ne ha hb (nomark _)
/-- is None, is not None -/
def isNP : PV → Bool
  | .non => true
  | _ => false
theorem isNP_rv {L : Nat} {p : PV} {x : V} (h : RV X H g L p x) : decide (x = V.non) = isNP p := by
  cases p with
  | con m k xs => simp only [RV] at h; obtain ⟨a, vs, rfl, _⟩ := h; rfl
  | ref n => simp only [RV] at h; obtain ⟨_, rfl⟩ := h; rfl
  | fn x => simp only [RV] at h; obtain ⟨a, _, rfl⟩ := h; rfl
  | ty x => simp only [RV] at h; subst h; rfl
  | non => rw [h.non_inv] <;> rfl
  | bl _ => rw [h.bl_inv] <;> rfl
  | int _ => rw [h.int_inv] <;> rfl
  | str _ => rw [h.str_inv] <;> rfl
def eU (f : PV → PV) (t : EF) : EF := fun Γ S => (t Γ S).bind fun p S1 => .ok (f p) S1
/-- chains -/
def eChain (f f' : OF) (ta tb tc : EF) : EF := fun Γ S => (ta Γ S).bind fun x S1 => (tb Γ S1).bind fun y S2 => (R.of (f x y S2)).bind fun z S3 => match z with
  | .bl true => (tc Γ S3).bind fun w S4 => R.of (f' y w S4)
  | .bl false => .ok (.bl false) S3
  | _ => .bad
/-! ### tests -/
def bE (t : EF) : BF := fun Γ S => (t Γ S).bind fun v S1 => match v with
  | .bl b => .ok b S1
  | _ => .bad
theorem OKw.cont {α : Type} {σ : L2.St} {r : R α} {P : α → Sto → G → Hp → Prop} (e : Ext X H g S H' g' S') (h : OKw X W σ H g S r P) : OKw X W σ H' g' S' r P := by
  cases r with
  | ok v S1 => exact fun g1 H1 e1 => h g1 H1 (e.trans e1)
  | ex c fs S1 => exact fun g1 H1 cls d e1 => h g1 H1 cls d (e.trans e1)
  | bad => exact h
theorem liftB_E {t : EF} {σ : L2.St} {H : Hp} {Q : Bool → Hp → Prop} (h : liftB X W (bE t) σ H Q) : lift X W t σ H fun x H' => ∃ k, x = .bl k ∧ Q k H' := by
  obtain ⟨g, Γ, S, rel, rg, ok⟩ := h
  refine ⟨g, Γ, S, rel, rg, OKw.mono (OKw.bind ok) fun p S1 g1 H1 _ e1 h1 x rx => ?_⟩
  split at h1
  · exact ⟨_, rx.bl_inv, OKw.ok e1.rel h1⟩
  · exact h1.elim
theorem B.cmp {op : CmpOp} {r : R2} {f : OF} (ho : OpR X (compareOp op) r) (hf : OpF X r f) (ha : E X W a ta) (hb : E X W b tb) (hm : behindInMarks op b = false) : B X W (.Compare a [op] [b] pos) (bE (eOp f ta tb)) :=
  pt_imp (pt_cmpR ho ha hb hm) fun σ H Q h => lift_op hf (liftB_E h)
theorem B.lt (ha : E X W a ta) (hb : E X W b tb) : B X W (.Compare a [.Lt] [b] pos) (bE (eOp ltF ta tb)) := B.cmp op_lt opf_B0 ha hb (nomark _)
theorem B.le (ha : E X W a ta) (hb : E X W b tb) : B X W (.Compare a [.LtE] [b] pos) (bE (eOp leF ta tb)) := B.cmp op_le opf_B0 ha hb (nomark _)
theorem B.gt (ha : E X W a ta) (hb : E X W b tb) : B X W (.Compare a [.Gt] [b] pos) (bE (eOp gtF ta tb)) := B.cmp op_gt opf_B0 ha hb (nomark _)
theorem B.ge (ha : E X W a ta) (hb : E X W b tb) : B X W (.Compare a [.GtE] [b] pos) (bE (eOp geF ta tb)) := B.cmp op_ge opf_B0 ha hb (nomark _)
theorem B.eq (hu : X.A.units + 64 < cLine) (ha : E X W a ta) (hb : E X W b tb) : B X W (.Compare a [.Eq] [b] pos) (bE (eOp eqF ta tb)) := B.cmp (or_eq hu) opf_eq ha hb (nomark _)
theorem B.ne (hu : X.A.units + 64 < cLine) (ha : E X W a ta) (hb : E X W b tb) : B X W (.Compare a [.NotEq] [b] pos) (bE (eOp neF ta tb)) := B.cmp (or_ne hu) opf_ne ha hb (nomark _)
/-- a comparison's reading as a test -/
theorem B.ofPC {op : CmpOp} {t : TE} {te : EF} (h : PC X op a b t) (k : ∀ σ H Q, lift X W te σ H Q → t σ H Q) (h1 : behindInMarks op b = false) : B X W (.Compare a [op] [b] pos) (bE te) :=
  pt_imp (pt_cmp h h1) fun σ H Q q => k _ _ _ (liftB_E q)
theorem isN_imp {σ : L2.St} {H : Hp} {Q : VK} (h : lift X W (eU (fun p => .bl (isNP p)) ta) σ H Q) : tIsN (lift X W ta) σ H Q := by
  obtain ⟨g, Γ, S, rel, rg, ok⟩ := h
  exact ⟨g, Γ, S, rel, rg, OKw.mono (OKw.bind ok) fun p S1 g1 H1 _ e1 h1 x rx => by
    show Q (.bl (decide (x = V.non))) H1
    rw [isNP_rv rx]
    exact OKw.ok e1.rel h1 _ RV.bl⟩
theorem notN_imp {σ : L2.St} {H : Hp} {Q : VK} (h : lift X W (eU (fun p => .bl (!isNP p)) ta) σ H Q) : tNotN (lift X W ta) σ H Q := by
  obtain ⟨g, Γ, S, rel, rg, ok⟩ := h
  exact ⟨g, Γ, S, rel, rg, OKw.mono (OKw.bind ok) fun p S1 g1 H1 _ e1 h1 x rx => by
    show Q (.bl (!decide (x = V.non))) H1
    rw [isNP_rv rx]
    exact OKw.ok e1.rel h1 _ RV.bl⟩
theorem E.isN {j pos'} (ha : E X W a ta) : E X W (.Compare a [.Is] [.Constant .none j pos'] pos) (eU (fun p => .bl (isNP p)) ta) := pe_imp (pe_cmp (pc_isN ha) (nomark _)) fun _ _ _ h => isN_imp h
theorem E.notN {j pos'} (ha : E X W a ta) : E X W (.Compare a [.IsNot] [.Constant .none j pos'] pos) (eU (fun p => .bl (!isNP p)) ta) := pe_imp (pe_cmp (pc_notN ha) (nomark _)) fun _ _ _ h => notN_imp h
theorem B.isN {j pos'} (ha : E X W a ta) : B X W (.Compare a [.Is] [.Constant .none j pos'] pos) (bE (eU (fun p => .bl (isNP p)) ta)) := B.ofPC (pc_isN ha) (fun _ _ _ h => isN_imp h) (nomark _)
theorem B.notN {j pos'} (ha : E X W a ta) : B X W (.Compare a [.IsNot] [.Constant .none j pos'] pos) (bE (eU (fun p => .bl (!isNP p)) ta)) := B.ofPC (pc_notN ha) (fun _ _ _ h => notN_imp h) (nomark _)
theorem chain_imp {r r' : R2} {f f' : OF} (hf : OpF X r f) (hf' : OpF X r' f') {σ : L2.St} {H : Hp} {Q : VK} (h : lift X W (eChain f f' ta tb tc) σ H Q) : tChain r r' (lift X W ta) (lift X W tb) (lift X W tc) σ H Q := by
  obtain ⟨g, Γ, S, rel, rg, ok⟩ := h
  refine ⟨g, Γ, S, rel, rg, OKw.mono (OKw.bind ok) fun p S1 g1 H1 _ e1 h1 x rx => ?_⟩
  refine ⟨g1, Γ, S1, e1.rel, rg.up rel e1, OKw.mono (OKw.bind h1) fun q S2 g2 H2 _ e2 h2 y ry => ?_⟩
  have rx2 := RV.up e1.rel e2 p x rx
  cases hw : f p q S2 with
  | none => rw [hw] at h2; exact h2.elim
  | some z =>
    obtain ⟨w, S3⟩ := z
    rw [hw] at h2
    refine hf H2 g2 S2 p q x y w S3 _ e2.rel rx2 ry hw fun g3 H3 z e3 rz => ?_
    have h2 : OKw X W σ H2 g2 S2 (match w with
      | .bl true => (tc Γ S3).bind fun w S4 => R.of (f' q w S4)
      | .bl false => .ok (.bl false) S3
      | _ => .bad) _ := h2
    split at h2
    · refine ⟨true, rz.bl_inv, ?_⟩
      rw [if_pos rfl]
      refine ⟨g3, Γ, S3, e3.rel, ((rg.up rel e1).up e1.rel e2).up e2.rel e3, ?_⟩
      have h3 : OKw X W σ H3 g3 S3 ((tc Γ S3).bind fun w S4 => R.of (f' q w S4)) (fun v S' g' H' => ∀ x, RV X H' g' S'.length v x → Q x H') := by
        cases hr : (tc Γ S3).bind fun w S4 => R.of (f' q w S4) with
        | ok v S' => rw [hr] at h2; exact fun g' H' e' => h2 g' H' (e3.trans e')
        | ex c fs S' => rw [hr] at h2; exact fun g' H' cls d e' => h2 g' H' cls d (e3.trans e')
        | bad => rw [hr] at h2; exact h2
      refine OKw.mono (OKw.bind h3) fun w4 S4 g4 H4 _ e4 h4 z4 r4 => ?_
      cases hv : f' q w4 S4 with
      | none => rw [hv] at h4; exact h4.elim
      | some z =>
        obtain ⟨w5, S5⟩ := z
        rw [hv] at h4
        exact hf' H4 g4 S4 q w4 y z4 w5 S5 Q e4.rel (RV.up e3.rel e4 _ _ (RV.up e2.rel e3 _ _ ry)) r4 hv fun g' H' z e5 rz => h4 g' H' e5 z rz
    · refine ⟨false, rz.bl_inv, ?_⟩
      rw [if_neg Bool.false_ne_true]
      exact h2 g3 H3 e3 _ RV.bl
    · exact h2.elim
theorem E.chain {op op' : CmpOp} {r r' : R2} {f f' : OF} (ho : OpR X (compareOp op) r) (ho' : OpR X (compareOp op') r') (hf : OpF X r f) (hf' : OpF X r' f') (ha : E X W a ta) (hb : E X W b tb) (hc : E X W c tc)
    (hm : lastMarks [op, op'] [b, c] = false := by with_unfolding_all rfl) : E X W (.Compare a [op, op'] [b, c] pos) (eChain f f' ta tb tc) :=
  pe_imp (pe_chain ho ho' ha hb hc hm) fun σ H Q h => chain_imp hf hf' h
theorem B.chain {op op' : CmpOp} {r r' : R2} {f f' : OF} (ho : OpR X (compareOp op) r) (ho' : OpR X (compareOp op') r') (hf : OpF X r f) (hf' : OpF X r' f') (ha : E X W a ta) (hb : E X W b tb) (hc : E X W c tc)
    (hm : lastMarks [op, op'] [b, c] = false := by with_unfolding_all rfl) : B X W (.Compare a [op, op'] [b, c] pos) (bE (eChain f f' ta tb tc)) :=
  pt_imp (pt_chain ho ho' ha hb hc hm) fun σ H Q h => chain_imp hf hf' (liftB_E h)
/-- truth -/
def truB (S : Sto) (p : PV) : Option Bool := match p with
  | .non => some false
  | .bl b => some b
  | .int i => some (decide (i ≠ 0))
  | p => match deref S p with
    | some (.lst, xs) => some (!xs.isEmpty)
    | some (.tup, xs) => some (!xs.isEmpty)
    | _ => none
def bT (t : EF) : BF := fun Γ S => (t Γ S).bind fun v S1 => match truB S1 v with
  | some b => .ok b S1
  | none => .bad
theorem RVs.isEmpty {L : Nat} {xs : List PV} {vs : List V} (h : RVs X H g L xs vs) : (!xs.isEmpty) = !vs.isEmpty := by
  have := h.len
  cases xs <;> cases vs <;> simp_all
theorem truB_ok {p : PV} {x : V} {b : Bool} (rel : Rel X H g S) (rx : RV X H g S.length p x) (h : truB S p = some b) : TruV X.K x H b := by
  unfold truB at h
  split at h
  · cases h; rw [rx.non_inv]; exact rfl
  · cases h; rw [rx.bl_inv]; exact rfl
  · rename_i i
    cases h; rw [rx.int_inv]
    show decide (i ≠ 0) = (i != 0)
    by_cases z : i = 0 <;> simp [z]
  · split at h
    · rename_i xs e
      obtain ⟨a, vs, rfl, h2, h3⟩ := deref_ok rel rx e
      cases h
      exact Or.inl ⟨vs, h3.lst, h2.isEmpty⟩
    · rename_i xs e
      obtain ⟨a, vs, rfl, h2, h3⟩ := deref_ok rel rx e
      cases h
      exact Or.inr (Or.inl ⟨vs, h3.tup, h2.isEmpty⟩)
    · cases h
theorem B.tru (ha : E X W a ta) (he : ∀ whole, isTrue a X.env whole = (do let v ← whole; standAt a.pos; holding [v] (truthy v)) := by intro _; rfl) : B X W a (bT ta) :=
  pt_imp (pt_truth ha he) fun σ H Q ⟨g, Γ, S, rel, rg, ok⟩ => ⟨g, Γ, S, rel, rg, OKw.mono (OKw.bind ok) fun p S1 g1 H1 _ e1 h1 x rx => by
    split at h1
    · rename_i b hb
      exact ⟨b, truB_ok e1.rel rx hb, OKw.ok e1.rel h1⟩
    · exact h1.elim⟩
/-- and, or, not -/
def BW (X : Cx) (W : WX) (e : Expr) (t : BF) : Prop := PW X e (liftB X W t)
def bAnd (s t : BF) : BF := fun Γ S => (s Γ S).bind fun k S1 => if k = true then t Γ S1 else .ok false S1
def bOr (s t : BF) : BF := fun Γ S => (s Γ S).bind fun k S1 => if k = true then .ok true S1 else t Γ S1
def bNot (s : BF) : BF := fun Γ S => (s Γ S).bind fun k S1 => .ok (!k) S1
variable {sa sb : BF}
theorem pw_imp {e : Expr} {t t' : TT} (h : PW X e t) (k : ∀ σ H Q, t' σ H Q → t σ H Q) : PW X e t' := ⟨fun whole pins s σ H Q I q => h.run whole pins s σ H Q I (k σ H Q q)⟩
theorem BW.and1 (ha : B X W a sa) : BW X W (.BoolOp .And [a] pos) sa := pw_and1 ha
theorem BW.or1 (ha : B X W a sa) : BW X W (.BoolOp .Or [a] pos) sa := pw_or1 ha
theorem BW.and (ha : B X W a sa) (hb : BW X W (.BoolOp .And (b :: rest) pos) sb) : BW X W (.BoolOp .And (a :: b :: rest) pos) (bAnd sa sb) :=
  pw_imp (pw_and ha hb) fun σ H Q ⟨g, Γ, S, rel, rg, ok⟩ => ⟨g, Γ, S, rel, rg, OKw.mono (OKw.bind ok) fun k S1 g1 H1 _ e1 h1 => by
    cases k with
    | true => rw [if_pos rfl] at h1 ⊢; exact ⟨g1, Γ, S1, e1.rel, rg.up rel e1, h1⟩
    | false => rw [if_neg Bool.false_ne_true] at h1 ⊢; exact OKw.ok e1.rel h1⟩
theorem BW.or (ha : B X W a sa) (hb : BW X W (.BoolOp .Or (b :: rest) pos) sb) : BW X W (.BoolOp .Or (a :: b :: rest) pos) (bOr sa sb) :=
  pw_imp (pw_or ha hb) fun σ H Q ⟨g, Γ, S, rel, rg, ok⟩ => ⟨g, Γ, S, rel, rg, OKw.mono (OKw.bind ok) fun k S1 g1 H1 _ e1 h1 => by
    cases k with
    | true => rw [if_pos rfl] at h1 ⊢; exact OKw.ok e1.rel h1
    | false => rw [if_neg Bool.false_ne_true] at h1 ⊢; exact ⟨g1, Γ, S1, e1.rel, rg.up rel e1, h1⟩⟩
theorem BW.t (h : BW X W e sa) : B X W e sa := PW.pt h
theorem B.not (ha : B X W a sa) : B X W (.UnaryOp .Not a pos) (bNot sa) :=
  pt_imp (pt_not ha) fun σ H Q ⟨g, Γ, S, rel, rg, ok⟩ => ⟨g, Γ, S, rel, rg, OKw.mono (OKw.bind ok) fun k S1 g1 H1 _ e1 h1 => OKw.ok e1.rel h1⟩
/-- as values -/
def eAnd (s t : EF) : EF := fun Γ S => (s Γ S).bind fun v S1 => match v with
  | .bl true => t Γ S1
  | .bl false => .ok (.bl false) S1
  | _ => .bad
def eOr (s t : EF) : EF := fun Γ S => (s Γ S).bind fun v S1 => match v with
  | .bl true => .ok (.bl true) S1
  | .bl false => t Γ S1
  | _ => .bad
def eNot (s : EF) : EF := fun Γ S => (s Γ S).bind fun v S1 => match v with
  | .bl k => .ok (.bl (!k)) S1
  | _ => .bad
theorem E.one {op} (h : E X W a ta) : E X W (.BoolOp op [a] pos) ta := pe_one h
theorem E.and (ha : E X W a ta) (hb : E X W (.BoolOp .And (b :: rest) pos) tb) : E X W (.BoolOp .And (a :: b :: rest) pos) (eAnd ta tb) :=
  pe_imp (pe_and ha hb) fun σ H Q ⟨g, Γ, S, rel, rg, ok⟩ => ⟨g, Γ, S, rel, rg, OKw.mono (OKw.bind ok) fun p S1 g1 H1 _ e1 h1 x rx => by
    split at h1
    · exact ⟨true, rx.bl_inv, by rw [if_pos rfl]; exact ⟨g1, Γ, S1, e1.rel, rg.up rel e1, h1⟩⟩
    · exact ⟨false, rx.bl_inv, by rw [if_neg Bool.false_ne_true]; exact OKw.ok e1.rel h1 _ RV.bl⟩
    · exact h1.elim⟩
theorem E.or (ha : E X W a ta) (hb : E X W (.BoolOp .Or (b :: rest) pos) tb) : E X W (.BoolOp .Or (a :: b :: rest) pos) (eOr ta tb) :=
  pe_imp (pe_or ha hb) fun σ H Q ⟨g, Γ, S, rel, rg, ok⟩ => ⟨g, Γ, S, rel, rg, OKw.mono (OKw.bind ok) fun p S1 g1 H1 _ e1 h1 x rx => by
    split at h1
    · exact ⟨true, rx.bl_inv, by rw [if_pos rfl]; exact OKw.ok e1.rel h1 _ RV.bl⟩
    · exact ⟨false, rx.bl_inv, by rw [if_neg Bool.false_ne_true]; exact ⟨g1, Γ, S1, e1.rel, rg.up rel e1, h1⟩⟩
    · exact h1.elim⟩
theorem E.not (ha : E X W a ta) : E X W (.UnaryOp .Not a pos) (eNot ta) :=
  pe_imp (pe_not ha) fun σ H Q ⟨g, Γ, S, rel, rg, ok⟩ => ⟨g, Γ, S, rel, rg, OKw.mono (OKw.bind ok) fun p S1 g1 H1 _ e1 h1 x rx => by
    split at h1
    · exact ⟨_, rx.bl_inv, OKw.ok e1.rel h1 _ RV.bl⟩
    · exact h1.elim⟩
def eIf (s : BF) (ta tb : EF) : EF := fun Γ S => (s Γ S).bind fun k S1 => if k = true then ta Γ S1 else tb Γ S1
theorem E.ifExp (hc : B X W c sa) (ha : E X W a ta) (hb : E X W b tb) : E X W (.IfExp c a b pos) (eIf sa ta tb) :=
  pe_imp (pe_ifExp hc ha hb) fun σ H Q ⟨g, Γ, S, rel, rg, ok⟩ => ⟨g, Γ, S, rel, rg, OKw.mono (OKw.bind ok) fun k S1 g1 H1 _ e1 h1 => by
    cases k with
    | true => rw [if_pos rfl] at h1 ⊢; exact ⟨g1, Γ, S1, e1.rel, rg.up rel e1, h1⟩
    | false => rw [if_neg Bool.false_ne_true] at h1 ⊢; exact ⟨g1, Γ, S1, e1.rel, rg.up rel e1, h1⟩⟩
/-- - a -/
def eNeg (s : EF) : EF := fun Γ S => (s Γ S).bind fun v S1 => match v with
  | .int i => .ok (.int (-i)) S1
  | _ => .bad
theorem E.neg (hn : UnR X (unaryOp .USub) (rU fun i => .int (-i))) (ha : E X W a ta) : E X W (.UnaryOp .USub a pos) (eNeg ta) :=
  pe_imp (pe_un hn ha) fun σ H Q ⟨g, Γ, S, rel, rg, ok⟩ => ⟨g, Γ, S, rel, rg, OKw.mono (OKw.bind ok) fun p S1 g1 H1 _ e1 h1 x rx => by
    split at h1
    · exact ⟨_, rx.int_inv, OKw.ok e1.rel h1 _ RV.int⟩
    · exact h1.elim⟩

/-! ### rows of arguments, displays -/
def aNil : AF := fun _ S => .ok [] S
def aCons (t : EF) (r : AF) : AF := fun Γ S => (t Γ S).bind fun v S1 => (r Γ S1).bind fun vs S2 => .ok (v :: vs) S2
variable {tr : AF}
theorem A.nil : A X W [] aNil := pa_imp pa_nil fun σ H Q ⟨g, Γ, S, rel, rg, ok⟩ => OKw.ok rel ok [] RVs.nil
theorem A.cons (ha : E X W e ta) (hr : A X W es tr) (hs : starEach (e :: es) X.env = (false, eval e X.env) :: starEach es X.env := by rfl) : A X W (e :: es) (aCons ta tr) :=
  pa_imp (pa_cons ha hr hs) fun σ H Q ⟨g, Γ, S, rel, rg, ok⟩ => ⟨g, Γ, S, rel, rg, OKw.mono (OKw.bind ok) fun p S1 g1 H1 _ e1 h1 x rx =>
    ⟨g1, Γ, S1, e1.rel, rg.up rel e1, OKw.mono (OKw.bind h1) fun ps S2 g2 H2 _ e2 h2 xs rxs => OKw.ok e2.rel h2 _ (RVs.cons (RV.up e1.rel e2 _ _ rx) rxs)⟩⟩
def eTup (t : AF) : EF := fun Γ S => (t Γ S).bind fun vs S1 => if vs.length ≤ sizeLine then .ok (.con .own .tup vs) S1 else .bad
def eLst (m : Bool) (t : AF) : EF := fun Γ S => (t Γ S).bind fun vs S1 => if vs.length ≤ sizeLine then .ok (newP m .lst vs S1).1 (newP m .lst vs S1).2 else .bad
theorem E.tup {x1} (h : A X W es tr) : E X W (.Tuple es x1 pos) (eTup tr) :=
  pe_imp (pe_tup h) fun σ H Q ⟨g, Γ, S, rel, rg, ok⟩ => ⟨g, Γ, S, rel, rg, OKw.mono (OKw.bind ok) fun ps S1 g1 H1 _ e1 h1 xs rxs => by
    split at h1
    · refine ⟨by rw [← rxs.len]; assumption, fun p hp => ?_⟩
      obtain ⟨z1, z2⟩ := newF_ok e1.rel hp (k := .tup) (o := .tup _) rfl rxs
      exact h1 _ _ z1 _ z2
    · exact h1.elim⟩
theorem E.lst (m : Bool) (h : A X W es tr) : E X W (.List es pos) (eLst m tr) :=
  pe_imp (pe_lst h) fun σ H Q ⟨g, Γ, S, rel, rg, ok⟩ => ⟨g, Γ, S, rel, rg, OKw.mono (OKw.bind ok) fun ps S1 g1 H1 _ e1 h1 xs rxs => by
    split at h1
    · refine ⟨by rw [← rxs.len]; assumption, fun p hp => ?_⟩
      obtain ⟨g', z1, z2⟩ := new_ok (m := m) e1.rel hp (k := .lst) (o := .lst _) rfl (by decide) rxs
      exact h1 _ _ z1 _ z2
    · exact h1.elim⟩

/-! ### subscripts -/
def ixB (S : Sto) (p q : PV) : Option PV := match q with
  | .int i => match p with
    | .str z => if z.length ≤ sizeLine then (atI z.cps.toList i).map fun c => .str ⟨#[c]⟩ else none
    | p => match deref S p with
      | some (.lst, xs) => atI xs i
      | some (.tup, xs) => atI xs i
      | _ => none
  | _ => none
def ixF : OF := fun p q S => (ixB S p q).map fun v => (v, S)
theorem RVs.atI {L : Nat} {xs : List PV} {vs : List V} {i : Int} {p : PV} (h : RVs X H g L xs vs) (e : L2.atI xs i = some p) : ∃ v, L2.atI vs i = some v ∧ RV X H g L p v := by
  unfold L2.atI at e ⊢
  rw [← h.len]
  cases q : ixN xs.length i with
  | none => rw [q] at e; cases e
  | some j =>
    rw [q] at e
    exact h.get (i := j) e
theorem opf_ix : OpF X (rIx X.K) ixF := by
  intro H g S p q x y w S' Q rel rx ry h k
  simp only [ixF, Option.map_eq_some_iff, Prod.mk.injEq] at h
  obtain ⟨v, h, rfl, rfl⟩ := h
  unfold ixB at h
  split at h
  · split at h
    · split at h
      · rename_i hz
        simp only [Option.map_eq_some_iff] at h
        obtain ⟨c, h, rfl⟩ := h
        exact Or.inr (Or.inr ⟨_, _, c, rx.str_inv, ry.int_inv, hz, h, k g H _ (Ext.refl rel) RV.str⟩)
      · cases h
    · split at h
      · rename_i xs e
        obtain ⟨a, vs, rfl, h2, h3⟩ := deref_ok rel rx e
        obtain ⟨z, q1, q2⟩ := h2.atI h
        exact Or.inl ⟨a, vs, _, z, rfl, ry.int_inv, h3.lst, q1, k g H _ (Ext.refl rel) q2⟩
      · rename_i xs e
        obtain ⟨a, vs, rfl, h2, h3⟩ := deref_ok rel rx e
        obtain ⟨z, q1, q2⟩ := h2.atI h
        exact Or.inr (Or.inl ⟨a, vs, _, z, rfl, ry.int_inv, h3.tup, q1, k g H _ (Ext.refl rel) q2⟩)
      · cases h
  · cases h
theorem E.ix (ha : E X W a ta) (hb : E X W b tb) (hs : PlainIx b := by exact fun _ _ => rfl) : E X W (.Subscript a b pos) (eOp ixF ta tb) :=
  pe_imp (pe_ix ix_seq ha hb hs) fun _ _ _ h => lift_op opf_ix h

/-! ### calls of what is built in -/
abbrev CF := List PV → Sto → Option (PV × Sto)
def eCall (f : CF) (t : AF) : EF := fun Γ S => (t Γ S).bind fun ps S1 => R.of (f ps S1)
def CallF (X : Kx) (r : List V → Hp → VK → Prop) (f : CF) : Prop := ∀ (H : Hp) (g : G) (S : Sto) (ps : List PV) (xs : List V) (w : PV) (S' : Sto) (Q : VK), Rel X H g S → RVs X H g S.length ps xs → f ps S = some (w, S') →
  (∀ g' H' z, Ext X H g S H' g' S' → RV X H' g' S'.length w z → Q z H') → r xs H Q
theorem lift_call {r : List V → Hp → VK → Prop} {f : CF} (hf : CallF X r f) {σ : L2.St} {H : Hp} {Q : VK} (h : lift X W (eCall f tr) σ H Q) : liftA X W tr σ H fun xs H1 => r xs H1 Q := by
  obtain ⟨g, Γ, S, rel, rg, ok⟩ := h
  refine ⟨g, Γ, S, rel, rg, OKw.mono (OKw.bind ok) fun ps S1 g1 H1 _ e1 h1 xs rxs => ?_⟩
  cases hw : f ps S1 with
  | none => rw [hw] at h1; exact h1.elim
  | some z =>
    obtain ⟨w, S2⟩ := z
    rw [hw] at h1
    exact hf H1 g1 S1 ps xs w S2 Q e1.rel rxs hw fun g' H' z e2 rz => h1 g' H' e2 z rz
variable {x : Str} {p : Pos} {id T : String}
theorem E.callB {r : List V → Hp → VK → Prop} {f : CF} (hc : CallR X (.builtin id) r) (hf : CallF X r f) (hg : Gl X x) (hm : X.mg x = none) (hv : bootBuiltins x = some (.builtin id)) (ha : A X W (e :: es) tr) (hn : x ≠ "__name__" := by decide) (hdb : (x == ("__debug__" : Str)) = false := by decide)
    (he : starEach (e :: es) X.env = (false, eval e X.env) :: starEach es X.env := by rfl) (hpl : (backTo pos (starEach es X.env)).any (·.1) = false := by rfl) : E X W (.Call (.Name x p) (e :: es) [] pos) (eCall f tr) :=
  pe_imp (pe_callB hc hg hm hv ha hn hdb he hpl) fun _ _ _ h => lift_call hf h
theorem E.callTy {r : List V → Hp → VK → Prop} {f : CF} (hc : CallR X (.type T) r) (hf : CallF X r f) (hg : Gl X x) (hm : X.mg x = none) (hv : bootBuiltins x = some (.type T)) (ha : A X W (e :: es) tr) (hn : x ≠ "__name__" := by decide) (hdb : (x == ("__debug__" : Str)) = false := by decide)
    (he : starEach (e :: es) X.env = (false, eval e X.env) :: starEach es X.env := by rfl) (hpl : (backTo pos (starEach es X.env)).any (·.1) = false := by rfl) : E X W (.Call (.Name x p) (e :: es) [] pos) (eCall f tr) :=
  pe_imp (pe_callTy hc hg hm hv ha hn hdb he hpl) fun _ _ _ h => lift_call hf h
end
end Pv

/-! Pv5: statements, loops. -/
namespace Pv
open PySem PySem.Spec PyProof.Rows L2
inductive RS where
  | nx (Γ : Gam) (S : Sto) | rt (v : PV) (S : Sto) | bk (Γ : Gam) (S : Sto) | ct (Γ : Gam) (S : Sto) | ex (c : Str) (fs : List (Str × PV)) (Γ : Gam) (S : Sto) | bad
abbrev SF := Gam → Sto → RS
abbrev GF := PV → Gam → Sto → R Gam
def R.st {α : Type} (r : R α) (Γ : Gam) (k : α → Sto → RS) : RS := match r with
  | .ok a S => k a S
  | .ex c fs S => .ex c fs Γ S
  | .bad => .bad
section
variable {X : Cx} {H H' H'' : Hp} {g g' g'' : G} {S S' S'' : Sto} {W : WX} {a b c e o : Expr} {es rest : List Expr} {ta tb tc to : EF} {pos : Pos} {D : Ends} {sts : List Stmt} {s1 s2 : Stmt} {t u : SF} {Γ : Gam} {σ : L2.St}

def OKs (X : Kx) (W : WX) (D : Ends) (H : Hp) (g : G) (S : Sto) (r : RS) : Prop := match r with
  | .nx Γ' S' => ∀ g' H' σ', Ext X H g S H' g' S' → RG X H' g' S'.length Γ' σ' → D.nx σ' H'
  | .bk Γ' S' => ∀ g' H' σ', Ext X H g S H' g' S' → RG X H' g' S'.length Γ' σ' → D.bk σ' H'
  | .ct Γ' S' => ∀ g' H' σ', Ext X H g S H' g' S' → RG X H' g' S'.length Γ' σ' → D.ct σ' H'
  | .rt v S' => ∀ g' H' x, Ext X H g S H' g' S' → RV X H' g' S'.length v x → D.rt x H'
  | .ex c fs Γ' S' => ∀ g' H' σ' cls d, Ext X H g S H' g' S' → RG X H' g' S'.length Γ' σ' → RX X H' g' S'.length c fs cls d → W cls d σ' H'
  | .bad => False
theorem OKs.cont {r : RS} (e : Ext X H g S H' g' S') (h : OKs X W D H g S r) : OKs X W D H' g' S' r := by
  cases r with
  | nx Γ1 S1 => exact fun g1 H1 σ1 e1 => h g1 H1 σ1 (e.trans e1)
  | bk Γ1 S1 => exact fun g1 H1 σ1 e1 => h g1 H1 σ1 (e.trans e1)
  | ct Γ1 S1 => exact fun g1 H1 σ1 e1 => h g1 H1 σ1 (e.trans e1)
  | rt v S1 => exact fun g1 H1 x e1 => h g1 H1 x (e.trans e1)
  | ex c fs Γ1 S1 => exact fun g1 H1 σ1 cls d e1 => h g1 H1 σ1 cls d (e.trans e1)
  | bad => exact h
def liftS (X : Cx) (W : WX) (t : SF) : TS := fun D σ H => ∃ g Γ S, Rel X H g S ∧ RG X H g S.length Γ σ ∧ OKs X W D H g S (t Γ S)
def liftG (X : Cx) (W : WX) (t : GF) : TG := fun v σ H Q => ∃ g Γ S p, Rel X H g S ∧ RG X H g S.length Γ σ ∧ RV X H g S.length p v ∧ OKw X W σ H g S (t p Γ S) fun Γ' S' g' H' => ∀ σ', RG X H' g' S'.length Γ' σ' → Q σ' H'
/-- a statement does t; a block; a target takes by t -/
def St (X : Cx) (W : WX) (s : Stmt) (t : SF) : Prop := PS X s (liftS X W t)
def Ss (X : Cx) (W : WX) (s : List Stmt) (t : SF) : Prop := PSs X s (liftS X W t)
def Tg (X : Cx) (W : WX) (e : Expr) (t : GF) : Prop := PG X e (liftG X W t)
theorem ps_imp {s : Stmt} {t t' : TS} (h : PS X s t) (k : ∀ D σ H, t' D σ H → t D σ H) : PS X s t' := ⟨fun pins s σ H D I q => h.run pins s σ H D I (k D σ H q)⟩
theorem pss_imp {s : List Stmt} {t t' : TS} (h : PSs X s t) (k : ∀ D σ H, t' D σ H → t D σ H) : PSs X s t' := ⟨fun pins s σ H D I q => h.run pins s σ H D I (k D σ H q)⟩
theorem pg_imp {e : Expr} {t t' : TG} (h : PG X e t) (k : ∀ v σ H Q, t' v σ H Q → t v σ H Q) : PG X e t' := ⟨fun pins s σ H v u Q I r q => h.run pins s σ H v u Q I r (k v σ H Q q)⟩

theorem OKs.st {α : Type} {r : R α} {k : α → Sto → RS} (rel : Rel X H g S) (rg : RG X H g S.length Γ σ) (h : OKs X W D H g S (r.st Γ k)) : OKw X W σ H g S r fun v S1 g1 H1 => OKs X W D H1 g1 S1 (k v S1) := by
  cases r with
  | ok v S1 => exact fun g1 H1 e1 => OKs.cont e1 h
  | ex c fs S1 => exact fun g1 H1 cls d e1 rx => h g1 H1 σ cls d e1 (rg.up rel e1) rx
  | bad => exact h

def sSeq (t u : SF) : SF := fun Γ S => match t Γ S with
  | .nx Γ1 S1 => u Γ1 S1
  | r => r
def sNext : SF := fun Γ S => .nx Γ S
theorem Ss.nil : Ss X W [] sNext := pss_imp pss_nil fun D σ H ⟨g, Γ, S, rel, rg, ok⟩ => ok g H σ (Ext.refl rel) rg
theorem Ss.one (h : St X W s1 t) : Ss X W [s1] t := pss_one h
theorem Ss.cons (h : St X W s1 t) (k : Ss X W sts u) : Ss X W (s1 :: sts) (sSeq t u) :=
  pss_imp (pss_cons h k) fun D σ H ⟨g, Γ, S, rel, rg, ok⟩ => ⟨g, Γ, S, rel, rg, by
    unfold sSeq at ok
    cases q : t Γ S with
    | nx Γ1 S1 =>
      rw [q] at ok
      exact fun g1 H1 σ1 e1 rg1 => ⟨g1, Γ1, S1, e1.rel, rg1, OKs.cont e1 ok⟩
    | bk Γ1 S1 => rw [q] at ok; exact ok
    | ct Γ1 S1 => rw [q] at ok; exact ok
    | rt v S1 => rw [q] at ok; exact ok
    | ex c fs Γ1 S1 => rw [q] at ok; exact ok
    | bad => rw [q] at ok; exact ok⟩
theorem St.pass : St X W (.Pass pos) sNext := ps_imp ps_pass fun D σ H ⟨g, Γ, S, rel, rg, ok⟩ => ok g H σ (Ext.refl rel) rg
def sBreak : SF := fun Γ S => .bk Γ S
theorem St.brk : St X W (.Break pos) sBreak := ps_imp ps_break fun D σ H ⟨g, Γ, S, rel, rg, ok⟩ => ok g H σ (Ext.refl rel) rg
def sExpr (t : EF) : SF := fun Γ S => (t Γ S).st Γ fun _ S1 => .nx Γ S1
theorem St.expr (h : E X W e ta) (hs : swapsWith e none pos.line X.env = pure false := by rfl) : St X W (.Expr e pos) (sExpr ta) :=
  ps_imp (ps_expr h hs) fun D σ H ⟨g, Γ, S, rel, rg, ok⟩ => ⟨g, Γ, S, rel, rg, OKw.mono (OKs.st rel rg ok) fun v S1 g1 H1 _ e1 h1 x _ => h1 g1 H1 σ (Ext.refl e1.rel) (rg.up rel e1)⟩
def sRet (t : EF) : SF := fun Γ S => (t Γ S).st Γ fun v S1 => .rt v S1
theorem St.ret (h : E X W e ta) : St X W (.Return (some e) pos) (sRet ta) :=
  ps_imp (ps_ret h) fun D σ H ⟨g, Γ, S, rel, rg, ok⟩ => ⟨g, Γ, S, rel, rg, OKw.mono (OKs.st rel rg ok) fun v S1 g1 H1 _ e1 h1 x rx => h1 g1 H1 x (Ext.refl e1.rel) rx⟩
theorem St.retN : St X W (.Return none pos) (sRet (eC .non)) :=
  ps_imp ps_retN fun D σ H ⟨g, Γ, S, rel, rg, ok⟩ => ok g H .non (Ext.refl rel) RV.non
def sIf (s : BF) (t u : SF) : SF := fun Γ S => (s Γ S).st Γ fun k S1 => if k = true then t Γ S1 else u Γ S1
theorem St.ite {sa : BF} {as bs : List Stmt} (hc : B X W c sa) (ha : Ss X W as t) (hb : Ss X W bs u) : St X W (.If c as bs pos) (sIf sa t u) :=
  ps_imp (ps_if hc ha hb) fun D σ H ⟨g, Γ, S, rel, rg, ok⟩ => ⟨g, Γ, S, rel, rg, OKw.mono (OKs.st rel rg ok) fun k S1 g1 H1 _ e1 h1 => by
    cases k with
    | true => rw [if_pos rfl] at h1 ⊢; exact ⟨g1, Γ, S1, e1.rel, rg.up rel e1, h1⟩
    | false => rw [if_neg Bool.false_ne_true] at h1 ⊢; exact ⟨g1, Γ, S1, e1.rel, rg.up rel e1, h1⟩⟩

/-! ### targets -/
def gN (i : Nat) : GF := fun p Γ S => .ok (Γ.set i (some p)) S
theorem Tg.name {i : Nat} {x : Str} (h : PG X (.Name x pos) (gName i)) : Tg X W (.Name x pos) (gN i) :=
  pg_imp h fun v σ H Q ⟨g, Γ, S, p, rel, rg, rv, ok⟩ => OKw.ok rel ok _ (rg.set rv)
abbrev GsF := List PV → Gam → Sto → R Gam
def liftGs (X : Cx) (W : WX) (t : GsF) : TGs := fun vs σ H Q => ∃ g Γ S ps, Rel X H g S ∧ RG X H g S.length Γ σ ∧ RVs X H g S.length ps vs ∧ OKw X W σ H g S (t ps Γ S) fun Γ' S' g' H' => ∀ σ', RG X H' g' S'.length Γ' σ' → Q σ' H'
/-- plain names -/
def gNs : List Nat → GsF
  | [], ps, Γ, S => match ps with
    | [] => .ok Γ S
    | _ => .bad
  | i :: is, ps, Γ, S => match ps with
    | p :: r => gNs is r (Γ.set i (some p)) S
    | [] => .bad
theorem gNs_ok : ∀ (is : List Nat) (ps : List PV) (Γ : Gam) (S : Sto), (∃ Γ' , gNs is ps Γ S = .ok Γ' S) ∨ gNs is ps Γ S = .bad
  | [], [], Γ, S => Or.inl ⟨Γ, rfl⟩
  | [], _ :: _, _, _ => Or.inr rfl
  | _ :: _, [], _, _ => Or.inr rfl
  | i :: is, p :: r, Γ, S => gNs_ok is r (Γ.set i (some p)) S
theorem gns_nil : PGs X [] (liftGs X W (gNs [])) := ⟨fun pins s σ H vs us Q I r ⟨g, Γ, S, ps, rel, rg, rv, ok⟩ => pgs_nil.run pins s σ H vs us Q I r (by
  cases ps with
  | nil => simp only [RVs] at rv; exact ⟨rv, OKw.ok rel ok _ rg⟩
  | cons _ _ => exact ok.elim)⟩
theorem gns_cons {i : Nat} {is : List Nat} {x : Str} (h : PG X (.Name x pos) (gName i)) (k : PGs X es (liftGs X W (gNs is)))
    (hs : (assignEach (.Name x pos :: es) X.env).map (·.2) = assign (.Name x pos) X.env :: (assignEach es X.env).map (·.2) := by rfl) : PGs X (.Name x pos :: es) (liftGs X W (gNs (i :: is))) :=
  ⟨fun pins s σ H vs us Q I r ⟨g, Γ, S, ps, rel, rg, rv, ok⟩ => (pgs_cons h k hs).run pins s σ H vs us Q I r (by
    cases ps with
    | nil => exact ok.elim
    | cons p ps =>
      simp only [RVs] at rv
      obtain ⟨v, w, rfl, h1, h2⟩ := rv
      refine ⟨v, w, rfl, g, _, S, ps, rel, rg.set h1, h2, ?_⟩
      have ok : OKw X W σ H g S (gNs is ps (Γ.set i (some p)) S) _ := ok
      rcases gNs_ok is ps (Γ.set i (some p)) S with ⟨Γ', q⟩ | q
      · rw [q] at ok ⊢; exact ok
      · rw [q] at ok; exact ok.elim)⟩
/-- a, b, .. = a tuple -/
def gT (is : List Nat) : GF := fun p Γ S => match deref S p with
  | some (.tup, xs) => gNs is xs Γ S
  | _ => .bad
theorem gNs_len : ∀ {is : List Nat} {ps : List PV} {Γ : Gam} {S : Sto}, (∃ Γ' S', gNs is ps Γ S = .ok Γ' S') → ps.length = is.length
  | [], [], _, _, _ => rfl
  | [], _ :: _, _, _, ⟨_, _, h⟩ => by cases h
  | _ :: _, [], _, _, ⟨_, _, h⟩ => by cases h
  | i :: is, p :: r, Γ, S, ⟨Γ', S', h⟩ => by
    simp only [List.length_cons, gNs_len (is := is) (ps := r) (Γ := Γ.set i (some p)) (S := S) ⟨Γ', S', h⟩]
theorem Tg.tup {is : List Nat} {k n : Nat} (hc : X.calm = true) (h : PGs X es (liftGs X W (gNs is))) (hi : is.length = n := by rfl) (hn : (assignEach es X.env).length = n := by rfl) (hst : (assignEach es X.env).findIdx? (·.1) = none := by rfl) :
    Tg X W (.Tuple es k pos) (gT is) :=
  pg_imp (pg_tup hc h hn hst) fun v σ H Q ⟨g, Γ, S, p, rel, rg, rv, ok⟩ => by
    unfold gT at ok
    split at ok
    · rename_i xs e
      obtain ⟨a, vs, rfl, h2, h3⟩ := deref_ok rel rv e
      have hl : xs.length = is.length := by
        rcases gNs_ok is xs Γ S with ⟨Γ', q⟩ | q
        · exact gNs_len ⟨Γ', S, q⟩
        · rw [q] at ok; exact ok.elim
      exact ⟨a, vs, rfl, h3.tup, by rw [← h2.len, hl, hi], g, Γ, S, xs, rel, rg, h2, ok⟩
    · exact ok.elim
def sAsg (t : EF) (gt : GF) : SF := fun Γ S => (t Γ S).st Γ fun v S1 => (gt v Γ S1).st Γ fun Γ1 S2 => .nx Γ1 S2
theorem asg_imp {gt : GF} (h : liftS X W (sAsg ta gt) D σ H) : tAsg (lift X W ta) (liftG X W gt) D σ H := by
  obtain ⟨g, Γ, S, rel, rg, ok⟩ := h
  refine ⟨g, Γ, S, rel, rg, OKw.mono (OKs.st rel rg ok) fun v S1 g1 H1 _ e1 h1 x rx => ?_⟩
  refine ⟨g1, Γ, S1, v, e1.rel, rg.up rel e1, rx, OKw.mono (OKs.st e1.rel (rg.up rel e1) h1) fun Γ2 S2 g2 H2 _ e2 h2 σ2 rg2 => h2 g2 H2 σ2 (Ext.refl e2.rel) rg2⟩
theorem St.asg {tg : Expr} {gt : GF} (he : E X W e ta) (hg : Tg X W tg gt) (hs : swapsWithSole [tg] e pos.line X.env = pure false := by rfl) (hw : swappedStores [tg] e X.env = pure none := by rfl)
    (h1 : (assignEach [tg] X.env).map (·.2) = [assign tg X.env] := by rfl) : St X W (.Assign [tg] e pos) (sAsg ta gt) :=
  ps_imp (ps_asg he hg hs hw h1) fun D σ H h => asg_imp h
/-- name = e -/
def sSet (i : Nat) (t : EF) : SF := fun Γ S => (t Γ S).st Γ fun v S1 => .nx (Γ.set i (some v)) S1
theorem set_imp {i : Nat} (h : liftS X W (sSet i ta) D σ H) : tAsg (lift X W ta) (gName i) D σ H := by
  obtain ⟨g, Γ, S, rel, rg, ok⟩ := h
  exact ⟨g, Γ, S, rel, rg, OKw.mono (OKs.st rel rg ok) fun v S1 g1 H1 _ e1 h1 x rx => h1 g1 H1 _ (Ext.refl e1.rel) ((rg.up rel e1).set rx)⟩
theorem St.set {i : Nat} {x : Str} {pos' : Pos} (h : ∀ {te : TE}, PE X e te → PS X (.Assign [.Name x pos'] e pos) (tAsg te (gName i))) (he : E X W e ta) : St X W (.Assign [.Name x pos'] e pos) (sSet i ta) :=
  ps_imp (h he) fun D σ H q => set_imp q
/-- name op= e, intsF -/
def sAug (i : Nat) (f : OF) (t : EF) : SF := fun Γ S => match Γ[i]? with
  | some (some p) => (t Γ S).st Γ fun q S1 => match f p q S1 with
    | some (v, S2) => .nx (Γ.set i (some v)) S2
    | none => .bad
  | _ => .bad
theorem aug_imp {i : Nat} {f : OF} {r : R2} (hf : OpF X r f) (h : liftS X W (sAug i f ta) D σ H) : tAug i (lift X W ta) r D σ H := by
  obtain ⟨g, Γ, S, rel, rg, ok⟩ := h
  unfold sAug at ok
  split at ok
  · rename_i p hp
    obtain ⟨x, h1, h2⟩ := rg.at_ i p hp
    refine ⟨x, h1, g, Γ, S, rel, rg, OKw.mono (OKs.st rel rg ok) fun q S1 g1 H1 _ e1 k1 y ry => ?_⟩
    cases hw : f p q S1 with
    | none => rw [hw] at k1; exact k1.elim
    | some z =>
      obtain ⟨w, S2⟩ := z
      rw [hw] at k1
      exact hf H1 g1 S1 p q x y w S2 _ e1.rel (RV.up rel e1 _ _ h2) ry hw fun g2 H2 z e2 rz => k1 g2 H2 _ e2 (((rg.up rel e1).up e1.rel e2).set rz)
  · exact ok.elim

/-! ### for, over what stands still -/
def forL (body : PV → SF) : List PV → SF
  | [], Γ, S => .nx Γ S
  | x :: xs, Γ, S => match body x Γ S with
    | .nx Γ1 S1 => forL body xs Γ1 S1
    | .ct Γ1 S1 => forL body xs Γ1 S1
    | .bk Γ1 S1 => .nx Γ1 S1
    | r => r
/-- what is walked, item by item: none: it is not a thing that may be walked; some none: the end -/
abbrev Stp := Sto → Nat → Option (Option PV)
def forI (st : Stp) (body : PV → SF) : Nat → Nat → SF
  | 0, _, _, _ => .bad
  | m + 1, i, Γ, S => match st S i with
    | none => .bad
    | some none => .nx Γ S
    | some (some x) => match body x Γ S with
      | .nx Γ1 S1 => forI st body m (i + 1) Γ1 S1
      | .ct Γ1 S1 => forI st body m (i + 1) Γ1 S1
      | .bk Γ1 S1 => .nx Γ1 S1
      | r => r
/-- a row that stands still -/
def stL (ps : List PV) : Stp := fun _ i => some ps[i]?
/-- a list that may change -/
def stR (n : Nat) : Stp := fun S i => match S[n]?.join with
  | some (.lst, xs) => some xs[i]?
  | _ => none
theorem forI_L {body : PV → SF} : ∀ (ps qs : List PV) (Γ : Gam) (S : Sto), forI (stL (qs ++ ps)) body (ps.length + 1) qs.length Γ S = forL body ps Γ S
  | [], qs, Γ, S => by
    simp only [List.append_nil, List.length_nil, forI, stL, forL]
    rw [List.getElem?_eq_none (Nat.le_refl _)]
  | p :: ps, qs, Γ, S => by
    have ih := fun Γ S => forI_L (body := body) ps (qs ++ [p]) Γ S
    simp only [List.append_assoc, List.singleton_append, List.length_append, List.length_singleton] at ih
    have e : (qs ++ p :: ps)[qs.length]? = some p := by
      rw [List.getElem?_append_right (Nat.le_refl _), Nat.sub_self] <;> rfl
    simp only [List.length_cons]
    rw [forI]
    simp only [stL] at ih ⊢
    rw [e]
    simp only [forL]
    cases body p Γ S <;> simp only [ih]
def sTurn (gt : GF) (t : SF) : PV → SF := fun p Γ S => (gt p Γ S).st Γ fun Γ1 S1 => t Γ1 S1
/-- one turn: the body's ends are the loop's -/
theorem turn_ok {gt : GF} {p : PV} {v : V} {k : SF} {N : L2.St → Hp → Prop} (rel : Rel X H g S) (rg : RG X H g S.length Γ σ) (rv : RV X H g S.length p v)
    (hN : ∀ g' H' σ' Γ' S', Ext X H g S H' g' S' → RG X H' g' S'.length Γ' σ' → OKs X W D H' g' S' (k Γ' S') → N σ' H')
    (ok : OKs X W D H g S (match sTurn gt t p Γ S with
      | .nx Γ1 S1 => k Γ1 S1
      | .ct Γ1 S1 => k Γ1 S1
      | .bk Γ1 S1 => .nx Γ1 S1
      | r => r)) : liftG X W gt v σ H fun σ2 H2 => liftS X W t { D with nx := N, ct := N, bk := D.nx } σ2 H2 := by
  refine ⟨g, Γ, S, p, rel, rg, rv, ?_⟩
  unfold sTurn at ok
  cases q : gt p Γ S with
  | bad => rw [q] at ok; exact ok.elim
  | ex c fs S1 =>
    rw [q] at ok
    exact fun g1 H1 cls d e1 rx => ok g1 H1 σ cls d e1 (rg.up rel e1) rx
  | ok Γ1 S1 =>
    rw [q] at ok
    intro g1 H1 e1 σ1 rg1
    refine ⟨g1, Γ1, S1, e1.rel, rg1, ?_⟩
    have ok : OKs X W D H g S (match t Γ1 S1 with
      | .nx Γ1 S1 => k Γ1 S1
      | .ct Γ1 S1 => k Γ1 S1
      | .bk Γ1 S1 => .nx Γ1 S1
      | r => r) := ok
    cases z : t Γ1 S1 with
    | nx Γ2 S2 =>
      rw [z] at ok
      exact fun g2 H2 σ2 e2 rg2 => hN g2 H2 σ2 Γ2 S2 (e1.trans e2) rg2 (OKs.cont (e1.trans e2) ok)
    | ct Γ2 S2 =>
      rw [z] at ok
      exact fun g2 H2 σ2 e2 rg2 => hN g2 H2 σ2 Γ2 S2 (e1.trans e2) rg2 (OKs.cont (e1.trans e2) ok)
    | bk Γ2 S2 =>
      rw [z] at ok
      exact fun g2 H2 σ2 e2 rg2 => ok g2 H2 σ2 (e1.trans e2) rg2
    | rt w S2 =>
      rw [z] at ok
      exact fun g2 H2 x e2 rx => ok g2 H2 x (e1.trans e2) rx
    | ex c fs Γ2 S2 =>
      rw [z] at ok
      exact fun g2 H2 σ2 cls d e2 rg2 rx => ok g2 H2 σ2 cls d (e1.trans e2) rg2 rx
    | bad => rw [z] at ok; exact ok.elim
/-- the walker J does what st says, from the state (H, g, S) on -/
def JOK (X : Kx) (J : It) (st : Stp) (H : Hp) (g : G) (S : Sto) : Prop := ∀ g' H' S' i, Ext X H g S H' g' S' →
  (∀ p, st S' i = some (some p) → J.go i H' ∧ ∀ x H2, J.yld i H' x H2 → ∃ g2, Ext X H' g' S' H2 g2 S' ∧ RV X H2 g2 S'.length p x) ∧ (st S' i = some none → J.stop i H')
theorem forI_ok {gt : GF} {J : It} {st : Stp} {n : Nat} (rel : Rel X H g S) (rg : RG X H g S.length Γ σ) (hJ : JOK X J st H g S) (ok : OKs X W D H g S (forI st (sTurn gt t) n 0 Γ S)) :
    ∃ Wv : Nat → Nat → L2.St → Hp → Prop, (∃ m, Wv 0 m σ H) ∧ ∀ i m σ H, Wv i m σ H →
      (J.stop i H ∧ D.nx σ H) ∨ (J.go i H ∧ ∃ N : L2.St → Hp → Prop, (∀ σ' H', N σ' H' → ∃ m', m' < m ∧ Wv (i + 1) m' σ' H') ∧ ∀ x H', J.yld i H x H' → liftG X W gt x σ H' fun σ2 H2 => liftS X W t { D with nx := N, ct := N, bk := D.nx } σ2 H2) := by
  refine ⟨fun i m σ1 H1 => ∃ g1 Γ1 S1, Ext X H g S H1 g1 S1 ∧ RG X H1 g1 S1.length Γ1 σ1 ∧ OKs X W D H1 g1 S1 (forI st (sTurn gt t) m i Γ1 S1), ⟨n, g, Γ, S, Ext.refl rel, rg, ok⟩, ?_⟩
  rintro i m σ1 H1 ⟨g1, Γ1, S1, e1, rg1, ok1⟩
  obtain ⟨j1, j2⟩ := hJ g1 H1 S1 i e1
  cases m with
  | zero => exact ok1.elim
  | succ m =>
    rw [forI] at ok1
    cases q : st S1 i with
    | none => rw [q] at ok1; exact ok1.elim
    | some z =>
      rw [q] at ok1
      cases z with
      | none => exact Or.inl ⟨j2 q, ok1 g1 H1 σ1 (Ext.refl e1.rel) rg1⟩
      | some p =>
        obtain ⟨j3, j4⟩ := j1 p q
        refine Or.inr ⟨j3, fun σ2 H2 => ∃ g2 Γ2 S2, Ext X H g S H2 g2 S2 ∧ RG X H2 g2 S2.length Γ2 σ2 ∧ OKs X W D H2 g2 S2 (forI st (sTurn gt t) m (i + 1) Γ2 S2), fun σ2 H2 h2 => ⟨m, Nat.lt_succ_self m, h2⟩, fun x H2 y => ?_⟩
        obtain ⟨g2, e2, rv⟩ := j4 x H2 y
        exact turn_ok (k := fun Γ S => forI st (sTurn gt t) m (i + 1) Γ S) e2.rel (rg1.up e1.rel e2) rv (fun g' H' σ' Γ' S' e' rg' ok' => ⟨g', Γ', S', (e1.trans e2).trans e', rg', ok'⟩) (OKs.cont e2 ok1)
/-! ### while -/
def whlN (c : BF) (t : SF) : Nat → SF
  | 0, _, _ => .bad
  | n + 1, Γ, S => (c Γ S).st Γ fun k S1 => if k = true then (match t Γ S1 with
      | .nx Γ2 S2 => whlN c t n Γ2 S2
      | .ct Γ2 S2 => whlN c t n Γ2 S2
      | .bk Γ2 S2 => .nx Γ2 S2
      | r => r) else .nx Γ S1
def fuel : Nat := 1000000000000
def sWhl (c : BF) (t : SF) : SF := whlN c t fuel
theorem St.whl {sa : BF} {body : List Stmt} (hp : PassesOwn (model X.prog X.w) X.A X.env X.xe) (hc : B X W c sa) (hb : Ss X W body t) : St X W (.While c body [] pos) (sWhl sa t) :=
  ps_imp (ps_while hp hc hb) fun D σ H ⟨g, Γ, S, rel, rg, ok⟩ => by
    refine ⟨fun m σ1 H1 => ∃ g1 Γ1 S1, Rel X H1 g1 S1 ∧ RG X H1 g1 S1.length Γ1 σ1 ∧ OKs X W D H1 g1 S1 (whlN sa t m Γ1 S1), ⟨fuel, g, Γ, S, rel, rg, ok⟩, ?_⟩
    rintro m σ1 H1 ⟨g1, Γ1, S1, rel1, rg1, ok1⟩
    cases m with
    | zero => exact ok1.elim
    | succ m =>
      refine ⟨g1, Γ1, S1, rel1, rg1, OKw.mono (OKs.st rel1 rg1 ok1) fun k S2 g2 H2 _ e2 h2 => ?_⟩
      cases k with
      | false => rw [if_neg Bool.false_ne_true] at h2 ⊢; exact h2 g2 H2 σ1 (Ext.refl e2.rel) (rg1.up rel1 e2)
      | true =>
        rw [if_pos rfl] at h2 ⊢
        refine ⟨fun σ3 H3 => ∃ g3 Γ3 S3, Rel X H3 g3 S3 ∧ RG X H3 g3 S3.length Γ3 σ3 ∧ OKs X W D H3 g3 S3 (whlN sa t m Γ3 S3), fun σ3 H3 h3 => ⟨m, Nat.lt_succ_self m, h3⟩, g2, Γ1, S2, e2.rel, rg1.up rel1 e2, ?_⟩
        cases z : t Γ1 S2 with
        | nx Γ3 S3 => rw [z] at h2; exact fun g3 H3 σ3 e3 rg3 => ⟨g3, Γ3, S3, e3.rel, rg3, OKs.cont e3 h2⟩
        | ct Γ3 S3 => rw [z] at h2; exact fun g3 H3 σ3 e3 rg3 => ⟨g3, Γ3, S3, e3.rel, rg3, OKs.cont e3 h2⟩
        | bk Γ3 S3 => rw [z] at h2; exact h2
        | rt v S3 => rw [z] at h2; exact h2
        | ex c fs Γ3 S3 => rw [z] at h2; exact h2
        | bad => rw [z] at h2; exact h2.elim
/-! ### what may be walked -/
def strs1 (z : Str) : List PV := z.cps.toList.map fun c => .str ⟨#[c]⟩
def intsF (lo : Int) (n : Nat) : List PV := (List.range n).map fun i => .int (lo + (i : Nat))
abbrev IF := Gam → Sto → R (Stp × Nat)
def SrcOK (X : Cx) (W : WX) (wi : TI) (it : IF) : Prop := ∀ (σ : L2.St) (H : Hp) (g : G) (Γ : Gam) (S : Sto) (Rr : It → Hp → Prop), Rel X H g S → RG X H g S.length Γ σ →
  OKw X W σ H g S (it Γ S) (fun q S1 g1 H1 => ∀ J, JOK X J q.1 H1 g1 S1 → Rr J H1) → wi σ H Rr
/-- iter walks as it says -/
def I (X : Cx) (W : WX) (tg iter : Expr) (it : IF) : Prop := ∃ wi, PI X tg iter wi ∧ SrcOK X W wi it
def sFor (it : IF) (gt : GF) (t : SF) : SF := fun Γ S => (it Γ S).st Γ fun q S1 => forI q.1 (sTurn gt t) q.2 0 Γ S1
variable {tg : Expr} {gt : GF} {body : List Stmt} {tn : AF} {it : IF} {iter : Expr}
theorem St.for (hp : PassesOwn (model X.prog X.w) X.A X.env X.xe) (hc : X.calm = true) (hi : I X W tg iter it) (ht : Tg X W tg gt) (hb : Ss X W body t) (hf : ∀ x, foldedSetIterable iter X.env x = pure x := by intro _; rfl) :
    St X W (.For tg iter body [] pos) (sFor it gt t) := by
  obtain ⟨wi, pi, src⟩ := hi
  refine ps_imp (ps_for hp hc pi ht hb hf) fun D σ H ⟨g, Γ, S, rel, rg, ok⟩ => ?_
  exact src σ H g Γ S _ rel rg (OKw.mono (OKs.st rel rg ok) fun q S1 g1 H1 _ e1 h1 J hJ => forI_ok e1.rel (rg.up rel e1) hJ h1)
theorem jok_L {J : It} {ps : List PV} {vs : List V} (rel : Rel X H g S) (rv : RVs X H g S.length ps vs)
    (hJ : ∀ H' i, (∀ x, vs[i]? = some x → J.go i H' ∧ ∀ y H2, J.yld i H' y H2 → y = x ∧ H2 = H') ∧ (vs.length ≤ i → J.stop i H')) : JOK X J (stL ps) H g S := by
  intro g' H' S' i e
  refine ⟨fun p q => ?_, fun q => ?_⟩
  · obtain ⟨x, q1, q2⟩ := rv.get (i := i) (p := p) (Option.some.inj q)
    obtain ⟨j1, j2⟩ := (hJ H' i).1 x q1
    refine ⟨j1, fun y H2 z => ?_⟩
    obtain ⟨rfl, rfl⟩ := j2 y H2 z
    exact ⟨g', Ext.refl e.rel, RV.up rel e _ _ q2⟩
  · have q : ps[i]? = none := Option.some.inj q
    exact (hJ H' i).2 (by rw [← rv.len]; exact List.getElem?_eq_none_iff.mp q)
theorem RVs.ofints {Y : Kx} {L : Nat} {lo : Int} {n : Nat} : RVs Y H g L (intsF lo n) ((List.range n).map fun i => V.int (lo + (i : Nat))) := by
  unfold intsF
  generalize List.range n = l
  induction l with
  | nil => exact RVs.nil
  | cons i l ih => exact RVs.cons RV.int ih
theorem jok_r {lo : Int} {n : Nat} (rel : Rel X H g S) : JOK X (Itr lo n) (stL (intsF lo n)) H g S :=
  jok_L rel RVs.ofints fun H' i => ⟨fun x h => by
    rw [List.getElem?_map] at h
    obtain ⟨j, h1, h2⟩ := Option.map_eq_some_iff.mp h
    have hi := (List.getElem?_eq_some_iff.mp h1).1
    rw [List.length_range] at hi
    rw [List.getElem?_range hi] at h1
    cases h1
    exact ⟨hi, fun y H2 z => ⟨z.2.trans h2, z.1⟩⟩, fun h => by
    rw [List.length_map, List.length_range] at h
    exact h⟩
def iR1 (tn : AF) : IF := fun Γ S => (tn Γ S).bind fun ps S1 => match ps with
  | [.int n] => if -(2 ^ 62) ≤ n ∧ n < 2 ^ 62 then .ok (stL (intsF 0 n.toNat), n.toNat + 1) S1 else .bad
  | _ => .bad
def iR2 (tn : AF) : IF := fun Γ S => (tn Γ S).bind fun ps S1 => match ps with
  | [.int i, .int j] => if -(2 ^ 62) ≤ i ∧ i < 2 ^ 62 ∧ -(2 ^ 62) ≤ j ∧ j < 2 ^ 62 then .ok (stL (intsF i (j - i).toNat), (j - i).toNat + 1) S1 else .bad
  | _ => .bad
theorem I.r1 {p : Pos} (hg : Gl X "range") (hm : X.mg "range" = none) (ha : A X W [a] tn) (hs : starEach [a] X.env = [(false, eval a X.env)] := by rfl) : I X W tg (.Call (.Name "range" p) [a] [] pos) (iR1 tn) :=
  ⟨_, pi_range1 hg hm ha hs, fun σ H g Γ S Rr rel rg ok => ⟨g, Γ, S, rel, rg, OKw.mono (OKw.bind ok) fun ps S1 g1 H1 _ e1 h1 xs rxs => by
    split at h1
    · rename_i n _
      simp only [RVs, RV] at rxs
      obtain ⟨v, r, rfl, rfl, rfl⟩ := rxs
      split at h1
      · rename_i hn
        exact ⟨n, rfl, hn.1, hn.2, OKw.ok e1.rel h1 _ (jok_r e1.rel)⟩
      · exact h1.elim
    · exact h1.elim⟩⟩
theorem I.r2 {p : Pos} (hg : Gl X "range") (hm : X.mg "range" = none) (ha : A X W [a, b] tn) (hs : starEach [a, b] X.env = [(false, eval a X.env), (false, eval b X.env)] := by rfl) (hs2 : starEach [b] X.env = [(false, eval b X.env)] := by rfl) :
    I X W tg (.Call (.Name "range" p) [a, b] [] pos) (iR2 tn) :=
  ⟨_, pi_range2 hg hm ha hs hs2, fun σ H g Γ S Rr rel rg ok => ⟨g, Γ, S, rel, rg, OKw.mono (OKw.bind ok) fun ps S1 g1 H1 _ e1 h1 xs rxs => by
    split at h1
    · rename_i i j _
      simp only [RVs, RV] at rxs
      obtain ⟨v, r, rfl, rfl, v2, r2, rfl, rfl, rfl⟩ := rxs
      split at h1
      · rename_i hn
        exact ⟨i, j, rfl, hn, OKw.ok e1.rel h1 _ (jok_r e1.rel)⟩
      · exact h1.elim
    · exact h1.elim⟩⟩
end
end Pv

/-! Pv6: defs of data: promises by functions, calls, bodies. -/
namespace Pv
open PySem PySem.Spec PyProof.Rows L2

/-! ### data without changing or lent parts -/
mutual
def clean : PV → Bool
  | .con .lent _ _ => false
  | .con _ _ xs => cleans xs
  | .ref _ => false
  | _ => true
def cleans : List PV → Bool
  | [] => true
  | x :: xs => clean x && cleans xs
end
inductive RP where
  | ok (v : PV) | ex (c : Str) (fs : List (Str × PV)) | bad
/-- a local value handed out: what changed until now stands for good -/
def frzV : Nat → Sto → PV → Option PV
  | 0, _, p => if clean p = true then some p else none
  | n + 1, S, p => if clean p = true then some p else match p with
    | .con .own k xs => (xs.mapM (frzV n S)).map (.con .own k)
    | .con .out k xs => (xs.mapM (frzV n S)).map (.con .out k)
    | .ref i => match S[i]?.join with
      | some (k, xs) => (xs.mapM (frzV n S)).map (.con .own k)
      | none => none
    | _ => none
/-- a value lent to a callee -/
def lendV (S : Sto) (p : PV) : Option PV := if clean p = true then some p else match p with
  | .con .lent k xs => if cleans xs = true then some (.con .lent k xs) else none
  | .ref i => match S[i]?.join with
    | some (k, xs) => if cleans xs = true then some (.con .lent k xs) else none
    | none => none
  | _ => none
def resP (S : Sto) (p : PV) : RP := match frzV 9 S p with
  | some q => .ok q
  | none => .bad
/-- a def of np parameters and n slots, as a function of data -/
def runP (np n : Nat) (body : SF) (args : List PV) : RP := if args.length = np then (match body (args.map some ++ List.replicate (n - args.length) none) [] with
  | .nx _ _ => .ok .non
  | .rt v S => resP S v
  | .ex c fs _ S => if cleans (fs.map (·.2)) = true then .ex c fs else .bad
  | _ => .bad) else .bad
section
variable {Y : Kx} {H H' H'' : Hp} {g g' g'' : G} {S S' S'' : Sto} {L L' : Nat}
structure CUp (H : Hp) (g : G) (H' : Hp) (g' : G) : Prop where
  keep : ∀ a o, H a = some o → (Mut (some o) → g.F a) → H' a = some o
  fr : ∀ a, g.F a → g'.F a
mutual
theorem RV.clean (u : CUp H g H' g') : ∀ (p : PV) (v : V), clean p = true → RV Y H g L p v → RV Y H' g' L' p v
  | .non, _, _, h => h
  | .bl _, _, _, h => h
  | .int _, _, _, h => h
  | .str _, _, _, h => h
  | .fn _, _, _, h => h
  | .ty _, _, _, h => h
  | .ref n, v, c, _ => by simp [Pv.clean] at c
  | .con .lent k xs, v, c, _ => by simp [Pv.clean] at c
  | .con .own k xs, v, c, h => by
    simp only [Pv.clean] at c
    simp only [RV] at h ⊢
    obtain ⟨a, vs, h1, ⟨o, h2, h3, h4⟩, h5⟩ := h
    exact ⟨a, vs, h1, ⟨o, h2, u.keep a o h3 h4, fun z => u.fr a (h4 z)⟩, RVs.clean u xs vs c h5⟩
  | .con .out k xs, v, c, h => by
    simp only [Pv.clean] at c
    simp only [RV] at h ⊢
    obtain ⟨a, vs, h1, h2, h5⟩ := h
    refine ⟨a, vs, h1, ?_, RVs.clean u xs vs c h5⟩
    rcases h2 with ⟨ob, o, q1, q2⟩ | h2
    · exact Or.inl ⟨ob, o, q1, u.keep a _ q2 fun z => False.elim z⟩
    · exact Or.inr h2
theorem RVs.clean (u : CUp H g H' g') : ∀ (p : List PV) (v : List V), cleans p = true → RVs Y H g L p v → RVs Y H' g' L' p v
  | [], _, _, h => h
  | x :: xs, vs, c, h => by
    simp only [Pv.cleans, Bool.and_eq_true] at c
    simp only [RVs] at h ⊢
    obtain ⟨v, r, h1, h2, h3⟩ := h
    exact ⟨v, r, h1, RV.clean u x v c.1 h2, RVs.clean u xs r c.2 h3⟩
end
theorem mapM_rv {f : PV → Option PV} (hf : ∀ p x q, RV Y H g L p x → f p = some q → RV Y H' g' L' q x) : ∀ {xs ys : List PV} {vs : List V}, RVs Y H g L xs vs → xs.mapM f = some ys → RVs Y H' g' L' ys vs
  | [], ys, vs, h, e => by
    simp only [RVs] at h
    subst h
    simp at e
    subst e
    exact RVs.nil
  | x :: xs, ys, vs, h, e => by
    simp only [RVs] at h
    obtain ⟨v, r, rfl, h2, h3⟩ := h
    simp only [List.mapM_cons, Option.bind_eq_bind, Option.bind_eq_some_iff, Option.pure_def, Option.some.injEq] at e
    obtain ⟨d, e1, es, e2, rfl⟩ := e
    exact RVs.cons (hf x v d h2 e1) (mapM_rv hf h3 e2)
/-- what stands for good behind a def: what did, and its own objects -/
def endF (g : G) (S : Sto) : Addr → Prop := fun a => g.F a ∨ ∃ n, Al S n ∧ g.r n = a
def Gp (F : Addr → Prop) : G := ⟨F, fun _ => False, fun _ => 0⟩
theorem frzV_ok (rel : Rel Y H g S) : ∀ (n : Nat) (p : PV) (x : V) (q : PV), RV Y H g S.length p x → frzV n S p = some q → RV Y H (Gp (endF g S)) 0 q x
  | 0, p, x, q, h, e => by
    unfold frzV at e
    split at e
    · rename_i c
      cases e
      exact RV.clean ⟨fun _ _ h _ => h, fun _ h => Or.inl h⟩ p x c h
    · cases e
  | n + 1, p, x, q, h, e => by
    unfold frzV at e
    split at e
    · rename_i c
      cases e
      exact RV.clean ⟨fun _ _ h _ => h, fun _ h => Or.inl h⟩ p x c h
    · split at e
      · simp only [Option.map_eq_some_iff] at e
        obtain ⟨ys, e, rfl⟩ := e
        simp only [RV] at h ⊢
        obtain ⟨a, vs, h1, ⟨o, h2, h3, h4⟩, h5⟩ := h
        exact ⟨a, vs, h1, ⟨o, h2, h3, fun z => Or.inl (h4 z)⟩, mapM_rv (frzV_ok rel n) h5 e⟩
      · simp only [Option.map_eq_some_iff] at e
        obtain ⟨ys, e, rfl⟩ := e
        simp only [RV] at h ⊢
        obtain ⟨a, vs, h1, h2, h5⟩ := h
        exact ⟨a, vs, h1, h2, mapM_rv (frzV_ok rel n) h5 e⟩
      · split at e
        · rename_i i _ _ k xs ej
          simp only [Option.map_eq_some_iff] at e
          obtain ⟨ys, e, rfl⟩ := e
          have hn := join_some ej
          obtain ⟨o, vs, q1, q2, q3, q4⟩ := rel.ob i k xs hn
          simp only [RV] at h ⊢
          exact ⟨_, vs, h.2, ⟨o, q2, q1, fun _ => Or.inr ⟨i, ⟨_, hn⟩, rfl⟩⟩, mapM_rv (frzV_ok rel n) q4 e⟩
        · cases e
      · cases e
def lendG (g : G) (S : Sto) : G := ⟨g.F, fun a => g.T a ∨ ∃ n, Al S n ∧ g.r n = a, fun _ => 0⟩
theorem lendV_ok (rel : Rel Y H g S) {p : PV} {x : V} {q : PV} (h : RV Y H g S.length p x) (e : lendV S p = some q) : RV Y H (lendG g S) 0 q x := by
  have cu : CUp H g H (lendG g S) := ⟨fun _ _ h _ => h, fun _ h => h⟩
  unfold lendV at e
  split at e
  · rename_i c
    cases e
    exact RV.clean cu p x c h
  · split at e
    · split at e
      · rename_i c
        cases e
        simp only [RV] at h ⊢
        obtain ⟨a, vs, h1, ⟨o, h2, h3, h4⟩, h5⟩ := h
        exact ⟨a, vs, h1, ⟨o, h2, h3, fun z => Or.inl (h4 z)⟩, RVs.clean cu _ _ c h5⟩
      · cases e
    · split at e
      · rename_i i _ _ k xs ej
        split at e
        · rename_i c
          cases e
          have hn := join_some ej
          obtain ⟨o, vs, q1, q2, q3, q4⟩ := rel.ob i k xs hn
          simp only [RV] at h ⊢
          exact ⟨_, vs, h.2, ⟨o, q2, q1, fun _ => Or.inr ⟨i, ⟨_, hn⟩, rfl⟩⟩, RVs.clean cu _ _ c q4⟩
        · cases e
      · cases e
    · cases e

/-! ### a promise by a function of data -/
structure Gro (H : Hp) (g : G) (H' : Hp) (F' : Addr → Prop) : Prop where
  fr : ∀ a, g.F a → F' a
  keep : ∀ a o, H a = some o → H' a = some o
  tr : ∀ a, F' a → ∃ o, H' a = some o
  new : ∀ a, F' a → g.F a ∨ H a = none
def OKp (Y : Kx) (H : Hp) (g : G) (r : RP) (Q : VK) (E : XK) : Prop := match r with
  | .ok v => ∀ H' F' x, Gro H g H' F' → RV Y H' (Gp F') 0 v x → Q x H'
  | .ex c fs => ∀ H' F' cls d, Gro H g H' F' → RX Y H' (Gp F') 0 c fs cls d → E cls d H'
  | .bad => False
def spP (Y : Kx) (f : List PV → RP) : Sp := fun vs H Q E => ∃ (g : G) (ps : List PV), RVs Y H g 0 ps vs ∧ (∀ a, g.F a ∨ g.T a → ∃ o, H a = some o) ∧ OKp Y H g (f ps) Q E
/-- a def that may be called by its name -/
structure Cal (P : Program) (w : World) (K : PySem.W.Frag) (mg : Str → Option Value) (base : Heap) (k : Nat) (x : Str) (sp : Sp) : Prop where
  ex : ∃ (f : Addr) (fd : FuncData) (ps : List Str), FnOk P w K mg base (L2.CX P w) k f fd ps sp ∧ mg x = some (.ref f) ∧ PySem.W.keepIn K (.ref f) = true ∧ Binds K fd ps []
end
def eCallP (f : List PV → RP) (t : AF) : EF := fun Γ S => (t Γ S).bind fun ps S1 => match ps.mapM (lendV S1) with
  | some qs => match f qs with
    | .ok v => .ok v S1
    | .ex c fs => .ex c fs S1
    | .bad => .bad
  | none => .bad
section
variable {X : Cx} {H H' H'' : Hp} {g g' g'' : G} {S S' S'' : Sto} {W : WX} {a b c e o : Expr} {es rest : List Expr} {ta tb tc to : EF} {tr : AF} {pos p : Pos} {Γ : Gam} {σ : L2.St} {x : Str} {k j : Nat} {f : List PV → RP}
theorem Gro.ext {F' : Addr → Prop} (rel : Rel X H g S) (u : Gro H (lendG g S) H' F') : Ext X H g S H' ⟨F', g.T, g.r⟩ S := by
  have up : Up H g S.length H' ⟨F', g.T, g.r⟩ S.length := ⟨fun a o h _ => u.keep a o h, fun a h => u.fr a h, fun _ h => h, fun _ _ => rfl, Nat.le_refl _⟩
  refine ⟨⟨fun n k xs e => ?_, rel.inj, fun n hn z => ?_, rel.fT, fun a z => ?_⟩, fun a o h _ => u.keep a o h, fun n hn => Or.inl ⟨hn, rfl⟩, fun _ _ => rfl, Nat.le_refl _, fun a h => u.fr a h, rfl, fun a o h => ⟨o, u.keep a o h⟩, fun a h => (u.new a h).elim Or.inl fun z => Or.inr (Or.inl z)⟩
  · obtain ⟨o, vs, h1, h2, h3, h4⟩ := rel.ob n k xs e
    exact ⟨o, vs, u.keep _ _ h1, h2, h3, RVs.mono up _ _ h4⟩
  · rcases u.new _ z with z | z
    · exact rel.fF n hn z
    · obtain ⟨o, q⟩ := rel.tracked hn
      have z : H (g.r n) = none := z
      rw [q] at z; cases z
  · rcases z with z | z
    · exact u.tr a z
    · obtain ⟨o, q⟩ := rel.tr a (Or.inr z)
      exact ⟨o, u.keep a o q⟩
theorem RX.mono {Y : Kx} {L L' : Nat} {c : Str} {fs : List (Str × PV)} {cls : Value} {d : Option Addr} (u : Up H g L H' g' L') (h : RX Y H g L c fs cls d) : RX Y H' g' L' c fs cls d := by
  obtain ⟨h1, h2⟩ := h
  refine ⟨h1, ?_⟩
  rcases h2 with h2 | ⟨dx, vs, q1, q2, q3⟩
  · exact Or.inl h2
  · exact Or.inr ⟨dx, vs, q1, u.keep _ _ q2 fun z => False.elim z, RVs.mono u _ _ q3⟩
theorem callP_imp {σ : L2.St} {H : Hp} {Q : VK} (h : lift X W (eCallP f tr) σ H Q) : tCallS (spP X f) (WE W) (liftA X W tr) σ H Q := by
  obtain ⟨g, Γ, S, rel, rg, ok⟩ := h
  refine ⟨g, Γ, S, rel, rg, OKw.mono (OKw.bind ok) fun ps S1 g1 H1 _ e1 h1 xs rxs => ?_⟩
  split at h1
  · rename_i qs eq
    refine ⟨lendG g1 S1, qs, mapM_rv (fun p x q h e => lendV_ok e1.rel h e) rxs eq, fun a z => ?_, ?_⟩
    · rcases z with z | z | ⟨n, hn, rfl⟩
      · exact e1.rel.tr a (Or.inl z)
      · exact e1.rel.tr a (Or.inr z)
      · exact e1.rel.tracked hn
    · have cu : ∀ {H' : Hp} {F' : Addr → Prop}, Up H' (Gp F') 0 H' ⟨F', g1.T, g1.r⟩ S1.length := fun {H' F'} => ⟨fun _ _ h _ => h, fun _ h => h, fun _ h => False.elim h, fun n h => absurd h (Nat.not_lt_zero n), Nat.zero_le _⟩
      split at h1
      · rename_i v ev
        rw [ev]
        exact fun H' F' x u rv => h1 _ _ (u.ext e1.rel) x (RV.mono cu _ _ rv)
      · rename_i c fs ev
        rw [ev]
        exact fun H' F' cls d u rx => h1 _ _ cls d (u.ext e1.rel) (rx.mono cu)
      · exact h1.elim
  · exact h1.elim
theorem E.call (c : Cal X.prog X.w X.K X.mg X.base k x (spP X f)) (hr : Room j X.A) (tk : Takes X W) (hg : Gl X x) (ha : A X W (e :: es) tr) (hk : k ≤ j := by decide)
    (hdb : (x == ("__debug__" : Str)) = false := by decide) (he : starEach (e :: es) X.env = (false, eval e X.env) :: starEach es X.env := by rfl) (hpl : (backTo pos (starEach es X.env)).any (·.1) = false := by rfl) :
    E X W (.Call (.Name x p) (e :: es) [] pos) (eCallP f tr) := by
  obtain ⟨fa, fd, ps, F, hm, kp, b⟩ := c.ex
  exact pe_imp (pe_callS F (hr.mono hk) hg hm kp b (passAt tk) ha hdb he hpl) fun _ _ _ h => callP_imp h
end

/-! ### a def's body -/
/-- what is known within a def's body -/
structure Body (X : Cx) (W : WX) (N : List Str) (sc : Scope) (k : Nat) : Prop where
  hN : X.N = N
  sc : X.env.scope = sc
  calm : X.calm = true
  fn : ∀ x, X.fn x = true
  room : Room k X.A
  tk : Takes X W
  po : PassesOwn (model X.prog X.w) X.A X.env X.xe
  hs : X.stack = X.env :: X.outer
  hf : X.env.frame = some X.env.locals
section
variable {P : Program} {w : World} {K : PySem.W.Frag} {mg : Str → Option Value} {base : Heap}
theorem start_rg {Y : Kx} {H : Hp} {g : G} {L n : Nat} {ps : List PV} {vs : List V} {N : List Str} (h : RVs Y H g L ps vs) : RG Y H g L (ps.map some ++ List.replicate (N.length - ps.length) none) (L2.start N vs) := by
  have hl := h.len
  refine ⟨by unfold L2.start; simp [hl], fun i p e => ?_⟩
  unfold L2.start
  by_cases hi : i < ps.length
  · rw [List.getElem?_append_left (by simpa using hi), List.getElem?_map] at e
    obtain ⟨q, e1, e2⟩ := Option.map_eq_some_iff.mp e
    cases e2
    obtain ⟨v, q1, q2⟩ := h.get e1
    exact ⟨v, by rw [List.getElem?_append_left (by simpa [hl] using hi), List.getElem?_map, q1] <;> rfl, q2⟩
  · rw [List.getElem?_append_right (by simpa using hi)] at e
    rw [List.getElem?_replicate] at e
    split at e <;> cases e
theorem fnP {x qual : Str} {st : Stmt} {dvs : List V} {kws : List (Str × V)} {f : Addr} {fd : FuncData} {N ps : List Str} {k np n : Nat} {body : SF} (F : FunD K x qual (defArgs st) (defBody st) (defScope st) dvs kws f fd) (S : FnScope N ps (defScope st)) (hnp : ps.length = np) (hn : N.length = n)
    (hbody : ∀ (X : Cx) (W : WX), X.prog = P → X.w = w → X.K = K → X.mg = mg → X.base = base → Body X W N (defScope st) k → Ss X W (defBody st) body) : FnOk P w K mg base (L2.CX P w) (k + 1) f fd ps (spP ⟨K, mg⟩ (runP np n body)) := by
  refine F.ok S (fun vs H Q E ⟨g, qs, h1, h2, h3⟩ => ?_) (fun cdv A outer s H vs Q E hr ⟨g, qs, h1, h2, h3⟩ => ?_)
  · unfold runP at h3
    split at h3
    · rename_i e
      rw [← h1.len, e, hnp]
    · exact h3.elim
  · unfold runP at h3
    split at h3
    · rename_i elen
      subst hn
      let X := cxOf (L2.CX P w) P w K mg base N qual (defScope st) f cdv A outer s H E
      have tk : Takes X (fun cls d _ H => E cls d H) := takes_of rfl rfl rfl rfl
      have hb := hbody X (fun cls d _ H => E cls d H) rfl rfl rfl rfl rfl ⟨rfl, rfl, rfl, fun _ => rfl, hr, tk, passes_of rfl, rfl, rfl⟩
      refine ⟨_, hb, g, _, [], ⟨fun n k xs e => by simp at e, fun n m ⟨_, hn⟩ => by simp at hn, fun n ⟨_, hn⟩ => by simp at hn, fun n ⟨_, hn⟩ => by simp at hn, h2⟩, start_rg (n := 0) h1, ?_⟩
      have gro : ∀ {H' : Hp} {g' : G} {S' : Sto}, Ext ⟨K, mg⟩ H g [] H' g' S' → Gro H g H' (endF g' S') := fun {H' g' S'} e => by
        refine ⟨fun a h => Or.inl (e.fr a h), fun a o h => e.frame a o h fun n ⟨_, hn⟩ => by simp at hn, fun a h => ?_, fun a h => ?_⟩
        · rcases h with h | ⟨n, hn, rfl⟩
          · exact e.rel.tr a (Or.inl h)
          · exact e.rel.tracked hn
        · rcases h with h | ⟨n, hn, rfl⟩
          · rcases e.nf a h with z | z | ⟨n, ⟨_, q⟩, _⟩
            · exact Or.inl z
            · exact Or.inr z
            · simp at q
          · rcases e.old n hn with ⟨⟨_, q⟩, _⟩ | q
            · simp at q
            · exact Or.inr q
      have cu : ∀ {H' : Hp} {g' : G} {S' : Sto}, CUp H' g' H' (Gp (endF g' S')) := fun {H' g' S'} => ⟨fun _ _ h _ => h, fun _ h => Or.inl h⟩
      generalize eb : body (qs.map some ++ List.replicate (N.length - qs.length) none) [] = r at h3
      cases r with
      | nx Γ' S' => exact fun g' H' σ' e1 _ => h3 H' _ .non (gro e1) RV.non
      | rt v S' =>
        intro g' H' x e1 rv
        have h3 : OKp ⟨K, mg⟩ H g (resP S' v) Q E := h3
        unfold resP at h3
        split at h3
        · rename_i q eq
          exact h3 H' _ x (gro e1) (frzV_ok e1.rel 9 v x q rv eq)
        · exact h3.elim
      | ex c fs Γ' S' =>
        intro g' H' σ' cls d e1 _ rx
        have h3 : OKp ⟨K, mg⟩ H g (if cleans (fs.map (·.2)) = true then .ex c fs else .bad) Q E := h3
        split at h3
        · rename_i cl
          refine h3 H' _ cls d (gro e1) ?_
          obtain ⟨q1, q2⟩ := rx
          refine ⟨q1, ?_⟩
          rcases q2 with q2 | ⟨dx, vs, z1, z2, z3⟩
          · exact Or.inl q2
          · exact Or.inr ⟨dx, vs, z1, z2, RVs.clean cu _ _ cl z3⟩
        · exact h3.elim
      | bk Γ' S' => exact h3.elim
      | ct Γ' S' => exact h3.elim
      | bad => exact h3.elim
    · exact h3.elim
theorem Cal.mkP {x qual : Str} {st : Stmt} {dvs : List V} {kws : List (Str × V)} {f : Addr} {fd : FuncData} {N ps : List Str} {k np n : Nat} {body : SF} (F : FunD K x qual (defArgs st) (defBody st) (defScope st) dvs kws f fd) (hm : mg x = some (.ref f)) (S : FnScope N ps (defScope st)) (b : Binds K fd ps []) (hnp : ps.length = np) (hn : N.length = n)
    (hbody : ∀ (X : Cx) (W : WX), X.prog = P → X.w = w → X.K = K → X.mg = mg → X.base = base → Body X W N (defScope st) k → Ss X W (defBody st) body) : Cal P w K mg base (k + 1) x (spP ⟨K, mg⟩ (runP np n body)) :=
  ⟨f, fd, ps, fnP F S hnp hn hbody, hm, F.kp, b⟩
end
end Pv

/-! Pv7: walks over lists, tuples, texts; comprehensions; defs that change what they are handed; lists changed. -/
namespace Pv
open PySem PySem.Spec PyProof.Rows L2
section
variable {X : Cx} {H H' H'' H0 : Hp} {g g' g'' g0 : G} {S S' S'' S0 : Sto} {W : WX} {a b c e o l tg elt : Expr} {es rest ifs : List Expr} {ta tb tc to te : EF} {tr : AF} {pos p apos cpos : Pos} {Γ : Gam} {σ : L2.St} {x : Str} {k j : Nat}

/-! ### walks -/
def walkB (S : Sto) : PV → Option (Stp × Nat)
  | .con _ .lst xs => some (stL xs, xs.length + 1)
  | .ref n => match S[n]?.join with
    | some (.lst, xs) => some (stR n, xs.length + 1)
    | _ => none
  | _ => none
def iL (t : EF) : IF := fun Γ S => (t Γ S).bind fun p S1 => match walkB S1 p with
  | some q => .ok q S1
  | none => .bad
def iT (t : EF) : IF := fun Γ S => (t Γ S).bind fun p S1 => match p with
  | .con _ .tup xs => .ok (stL xs, xs.length + 1) S1
  | _ => .bad
def iS (t : EF) : IF := fun Γ S => (t Γ S).bind fun p S1 => match p with
  | .str z => .ok (stL (strs1 z), z.cps.toList.length + 1) S1
  | _ => .bad
theorem walk_lst {Y : Kx} {p : PV} {v : V} {q : Stp × Nat} (rel : Rel Y H g S) (rv : RV Y H g S.length p v) (h : walkB S p = some q) : ∃ a, v = .ref a ∧ (∃ vs, SqL Y.K H a vs) ∧ JOK Y (Itl Y.K a) q.1 H g S := by
  cases p with
  | con m k xs =>
    cases k with
    | lst =>
      cases h
      have rv0 := rv
      simp only [RV] at rv
      obtain ⟨a, vs, rfl, h2, h3⟩ := rv
      refine ⟨a, rfl, ⟨vs, h2.rdd.lst⟩, fun g' H' S' i e => ?_⟩
      have rv2 := RV.up rel e _ _ rv0
      simp only [RV] at rv2
      obtain ⟨b, ws, eb, q2, q3⟩ := rv2
      cases eb
      have sq := q2.rdd.lst
      refine ⟨fun p hp => ?_, fun hp => ?_⟩
      · obtain ⟨y, z1, z2⟩ := q3.get (i := i) (p := p) (Option.some.inj hp)
        exact ⟨⟨ws, y, sq, z1⟩, fun u H2 ⟨u1, u2⟩ => by
          subst u1
          have := u2 ws sq
          rw [z1] at this; cases this
          exact ⟨g', Ext.refl e.rel, z2⟩⟩
      · exact ⟨ws, sq, by rw [← q3.len]; exact List.getElem?_eq_none_iff.mp (Option.some.inj hp)⟩
    | _ => cases h
  | ref n =>
    simp only [walkB] at h
    split at h
    · rename_i xs ej
      cases h
      have hn := join_some ej
      obtain ⟨o, vs, h1, h2, _, h4⟩ := rel.ob n _ _ hn
      simp only [RV] at rv
      obtain ⟨hl, rfl⟩ := rv
      cases h2
      refine ⟨_, rfl, ⟨vs, SqL.of h1⟩, fun g' H' S' i e => ?_⟩
      have hr : g'.r n = g.r n := e.rho n hl
      have get : ∀ z, stR n S' i = some z → ∃ ys ws, S'[n]? = some (some (.lst, ys)) ∧ H' (g.r n) = some (.lst ws) ∧ RVs Y H' g' S'.length ys ws ∧ z = ys[i]? := fun z hz => by
        unfold stR at hz
        split at hz
        · rename_i ys ej2
          have hn2 := join_some ej2
          obtain ⟨o, ws, z1, z2, _, z4⟩ := e.rel.ob n _ _ hn2
          cases z2
          rw [hr] at z1
          cases hz
          exact ⟨ys, ws, hn2, z1, z4, rfl⟩
        · cases hz
      refine ⟨fun p hp => ?_, fun hp => ?_⟩
      · obtain ⟨ys, ws, _, z1, z4, z5⟩ := get _ hp
        obtain ⟨y, u1, u2⟩ := z4.get (i := i) (p := p) z5.symm
        exact ⟨⟨ws, y, SqL.of z1, u1⟩, fun u H2 ⟨w1, w2⟩ => by
          subst w1
          have := w2 ws (SqL.of z1)
          rw [u1] at this; cases this
          exact ⟨g', Ext.refl e.rel, u2⟩⟩
      · obtain ⟨ys, ws, _, z1, z4, z5⟩ := get _ hp
        exact ⟨ws, SqL.of z1, by rw [← z4.len]; exact List.getElem?_eq_none_iff.mp z5.symm⟩
    · cases h
  | non => cases h
  | bl _ => cases h
  | int _ => cases h
  | str _ => cases h
  | fn _ => cases h
  | ty _ => cases h
theorem I.lst (hl : E X W l ta) : I X W tg l (iL ta) :=
  ⟨_, pi_list hl, fun σ H g Γ S Rr rel rg ok => ⟨g, Γ, S, rel, rg, OKw.mono (OKw.bind ok) fun p S1 g1 H1 _ e1 h1 x rx => by
    split at h1
    · rename_i q hq
      obtain ⟨a, rfl, hs, hJ⟩ := walk_lst e1.rel rx hq
      exact ⟨a, rfl, hs, OKw.ok e1.rel h1 _ hJ⟩
    · exact h1.elim⟩⟩
theorem jok_tup {Y : Kx} {m : Md} {xs : List PV} {v : V} (rel : Rel Y H g S) (rv : RV Y H g S.length (.con m .tup xs) v) : ∃ a, v = .ref a ∧ (∃ vs, SqT Y.K H a vs) ∧ JOK Y (Itt Y.K a) (stL xs) H g S := by
  have rv0 := rv
  simp only [RV] at rv
  obtain ⟨a, vs, rfl, h2, h3⟩ := rv
  refine ⟨a, rfl, ⟨vs, h2.rdd.tup⟩, fun g' H' S' i e => ?_⟩
  have rv2 := RV.up rel e _ _ rv0
  simp only [RV] at rv2
  obtain ⟨b, ws, eb, q2, q3⟩ := rv2
  cases eb
  have sq := q2.rdd.tup
  refine ⟨fun p hp => ?_, fun hp => ?_⟩
  · obtain ⟨y, z1, z2⟩ := q3.get (i := i) (p := p) (Option.some.inj hp)
    exact ⟨⟨ws, y, sq, z1⟩, fun u H2 ⟨u1, u2⟩ => by
      subst u1
      have := u2 ws sq
      rw [z1] at this; cases this
      exact ⟨g', Ext.refl e.rel, z2⟩⟩
  · exact ⟨ws, sq, by rw [← q3.len]; exact List.getElem?_eq_none_iff.mp (Option.some.inj hp)⟩
theorem I.tup (hl : E X W l ta) : I X W tg l (iT ta) :=
  ⟨_, pi_tup hl, fun σ H g Γ S Rr rel rg ok => ⟨g, Γ, S, rel, rg, OKw.mono (OKw.bind ok) fun p S1 g1 H1 _ e1 h1 x rx => by
    split at h1
    · obtain ⟨a, rfl, hs, hJ⟩ := jok_tup e1.rel rx
      exact ⟨a, rfl, hs, OKw.ok e1.rel h1 _ hJ⟩
    · exact h1.elim⟩⟩
theorem RVs.ofstrs {Y : Kx} {L : Nat} (l : List Nat) : RVs Y H g L (l.map fun c => .str ⟨#[c]⟩) (l.map fun c => V.str ⟨#[c]⟩) := by
  induction l with
  | nil => exact RVs.nil
  | cons i l ih => exact RVs.cons RV.str ih
theorem I.str (hl : E X W l ta) : I X W tg l (iS ta) :=
  ⟨_, pi_str hl, fun σ H g Γ S Rr rel rg ok => ⟨g, Γ, S, rel, rg, OKw.mono (OKw.bind ok) fun p S1 g1 H1 _ e1 h1 x rx => by
    split at h1
    · rename_i z _
      refine ⟨z, rx.str_inv, OKw.ok e1.rel h1 _ (jok_L e1.rel (RVs.ofstrs _) fun H' i => ⟨fun y h => ?_, fun h => ?_⟩)⟩
      · rw [List.getElem?_map] at h
        obtain ⟨c, q1, q2⟩ := Option.map_eq_some_iff.mp h
        have q3 : z.cps[i]? = some c := by simpa using q1
        refine ⟨(Array.getElem?_eq_some_iff.mp q3).1, fun y' H2 w => ?_⟩
        obtain ⟨w1, c', w2, w3⟩ := w
        rw [q3] at w2
        cases w2
        exact ⟨w3.trans q2, w1⟩
      · simp only [List.length_map, Array.length_toList] at h
        exact h
    · exact h1.elim⟩⟩
/-- what a walk reads, whichever it is (chosen by the value) -/
def iAny (t : EF) : IF := fun Γ S => (t Γ S).bind fun p S1 => match p with
  | .con _ .tup xs => .ok (stL xs, xs.length + 1) S1
  | .str z => .ok (stL (strs1 z), z.cps.toList.length + 1) S1
  | p => match walkB S1 p with
    | some q => .ok q S1
    | none => .bad
theorem pi_or {tg iter : Expr} {wi wi' : TI} (h : PI X tg iter wi) (h' : PI X tg iter wi') : PI X tg iter (fun σ H R => wi σ H R ∨ wi' σ H R) := ⟨fun pins s σ H R I q => by
  rcases q with q | q
  · exact h.run pins s σ H R I q
  · exact h'.run pins s σ H R I q⟩
theorem I.any (hl : E X W l ta) : I X W tg l (iAny ta) := by
  obtain ⟨w1, p1, s1⟩ := I.lst (tg := tg) hl
  obtain ⟨w2, p2, s2⟩ := I.tup (tg := tg) hl
  obtain ⟨w3, p3, s3⟩ := I.str (tg := tg) hl
  refine ⟨_, pi_or p1 (pi_or p2 p3), fun σ H g Γ S Rr rel rg ok => ?_⟩
  cases q : ta Γ S with
  | bad => simp only [iAny, q] at ok; exact ok.elim
  | ex c fs S1 => exact Or.inl (s1 σ H g Γ S Rr rel rg (by simp only [iAny, iL, q] at ok ⊢; exact ok))
  | ok v S1 =>
    have ok : OKw X W σ H g S (match v with
      | .con _ .tup xs => .ok (stL xs, xs.length + 1) S1
      | .str z => .ok (stL (strs1 z), z.cps.toList.length + 1) S1
      | p => match walkB S1 p with
        | some q => .ok q S1
        | none => .bad) (fun q S1 g1 H1 => ∀ (J : It), JOK (kx X) J q.1 H1 g1 S1 → Rr J H1) := by simp only [iAny, q] at ok; exact ok
    split at ok
    · exact Or.inr (Or.inl (s2 σ H g Γ S Rr rel rg (by simp only [iT, q]; exact ok)))
    · exact Or.inr (Or.inr (s3 σ H g Γ S Rr rel rg (by simp only [iS, q]; exact ok)))
    · exact Or.inl (s1 σ H g Γ S Rr rel rg (by simp only [iL, q]; exact ok))

/-! ### comprehensions -/
def wipeG (Γ : Gam) : List Nat → Gam
  | [] => Γ
  | v :: vs => (wipeG Γ vs).set v none
theorem RG.wipe {Y : Kx} {L : Nat} (h : RG Y H g L Γ σ) : ∀ vs, RG Y H g L (wipeG Γ vs) (L2.wipe σ vs)
  | [] => h
  | v :: vs => (RG.wipe h vs).unset
/-- the walk of a comprehension: what is kept, in order -/
def lcI (st : Stp) (gt : GF) (tt : BF) (te : EF) (Γ : Gam) : Nat → Nat → List PV → Sto → R (List PV)
  | 0, _, _, _ => .bad
  | m + 1, i, acc, S => match st S i with
    | none => .bad
    | some none => .ok acc S
    | some (some p) => match gt p Γ S with
      | .ok Γ1 S1 => match tt Γ1 S1 with
        | .ok true S2 => match te Γ1 S2 with
          | .ok v S3 => if acc.length < sizeLine then lcI st gt tt te Γ m (i + 1) (acc ++ [v]) S3 else .bad
          | _ => .bad
        | .ok false S2 => lcI st gt tt te Γ m (i + 1) acc S2
        | _ => .bad
      | _ => .bad
def eLc (mu : Bool) (it : IF) (gt : GF) (tt : BF) (te : EF) (vs : List Nat) : EF := fun Γ S => (it Γ S).bind fun q S1 => (lcI q.1 gt tt te (wipeG Γ vs) q.2 0 [] S1).bind fun acc S2 => .ok (newP mu .lst acc S2).1 (newP mu .lst acc S2).2
/-- the list that grows, beside the store -/
structure Grw (Y : Kx) (H0 : Hp) (g0 : G) (S0 : Sto) (D : Addr) (H : Hp) (g : G) (S : Sto) : Prop where
  ext : Ext Y H0 g0 S0 H g S
  no : H0 D = none
  own : ∀ n, Al S n → g.r n ≠ D
  fF : ¬ g.F D
  fT : ¬ g.T D
theorem Grw.step {Y : Kx} {D : Addr} {o : HO} (w : Grw Y H0 g0 S0 D H g S) (hD : H D = some o) (e : Ext Y H g S H' g' S') : Grw Y H0 g0 S0 D H' g' S' ∧ H' D = some o := by
  refine ⟨⟨w.ext.trans e, w.no, fun n hn z => ?_, fun z => ?_, fun z => ?_⟩, e.frame D o hD fun n hn => w.own n hn⟩
  · rcases e.old n hn with ⟨h1, h2⟩ | h1
    · exact w.own n h1 (h2.symm.trans z)
    · rw [z, hD] at h1; cases h1
  · rcases e.nf D z with z | z | ⟨n, hn, z⟩
    · exact w.fF z
    · rw [hD] at z; cases z
    · exact w.own n hn z
  · rw [e.tt] at z; exact w.fT z
theorem Grw.put {Y : Kx} {D : Addr} {o o' : HO} (w : Grw Y H0 g0 S0 D H g S) (hD : H D = some o) (hm : Mut (some o)) : Grw Y H0 g0 S0 D (upd H D o') g S ∧ Up H g S.length (upd H D o') g S.length := by
  have up : Up H g S.length (upd H D o') g S.length := ⟨fun a u h z => by
    refine (upd_ne fun e => ?_).trans h
    subst e
    rw [hD] at h
    cases h
    rcases z hm with z | z
    · exact w.fF z
    · exact w.fT z, fun _ h => h, fun _ h => h, fun _ _ => rfl, Nat.le_refl _⟩
  have r := w.ext.rel
  refine ⟨⟨⟨⟨fun n k xs q => ?_, r.inj, r.fF, r.fT, fun a z => ?_⟩, fun a u h z => ?_, w.ext.old, w.ext.rho, w.ext.len, w.ext.fr, w.ext.tt, fun a u h => ?_, w.ext.nf⟩, w.no, w.own, w.fF, w.fT⟩, up⟩
  · obtain ⟨u, vs, h1, h2, h3, h4⟩ := r.ob n k xs q
    exact ⟨u, vs, by rw [upd_ne (w.own n ⟨_, q⟩)]; exact h1, h2, h3, RVs.mono up _ _ h4⟩
  · by_cases z2 : a = D
    · exact ⟨o', by rw [z2, upd_same]⟩
    · rw [upd_ne z2]; exact r.tr a z
  · rw [upd_ne (ne_of_none h w.no)]; exact w.ext.frame a u h z
  · rw [upd_ne (ne_of_none h w.no)]; exact w.ext.trk a u h
theorem Grw.fin {Y : Kx} {D : Addr} {mu : Bool} {acc : List PV} {vs : List V} (w : Grw Y H0 g0 S0 D H g S) (hD : H D = some (.lst vs)) (hv : RVs Y H g S.length acc vs) :
    ∃ g', Ext Y H0 g0 S0 H g' (newP mu .lst acc S).2 ∧ RV Y H g' (newP mu .lst acc S).2.length (newP mu .lst acc S).1 (.ref D) := by
  have r := w.ext.rel
  cases mu with
  | false =>
    have up : Up H g S.length H (g.addF D) S.length := ⟨fun _ _ h _ => h, fun _ h => Or.inl h, fun _ h => h, fun _ _ => rfl, Nat.le_refl _⟩
    refine ⟨g.addF D, ⟨⟨fun n k xs q => ?_, r.inj, fun n hn z => ?_, r.fT, fun a z => ?_⟩, w.ext.frame, w.ext.old, w.ext.rho, w.ext.len, fun a h => Or.inl (w.ext.fr a h), w.ext.tt, w.ext.trk, fun a z => ?_⟩, ?_⟩
    · obtain ⟨u, ws, h1, h2, h3, h4⟩ := r.ob n k xs q
      exact ⟨u, ws, h1, h2, h3, RVs.mono up _ _ h4⟩
    · rcases z with z | z
      · exact r.fF n hn z
      · exact w.own n hn z
    · rcases z with (z | z) | z
      · exact r.tr a (Or.inl z)
      · exact ⟨_, z ▸ hD⟩
      · exact r.tr a (Or.inr z)
    · rcases z with z | z
      · exact w.ext.nf a z
      · exact Or.inr (Or.inl (z ▸ w.no))
    · show RV Y H (g.addF D) S.length (.con .own .lst acc) (.ref D)
      simp only [RV]
      exact ⟨D, vs, rfl, ⟨_, rfl, hD, fun _ => Or.inr rfl⟩, RVs.mono up _ _ hv⟩
  | true =>
    have up : Up H g S.length H (g.addR S.length D) (S.length + 1) := ⟨fun _ _ h _ => h, fun _ h => h, fun _ h => h, fun n h => if_neg (Nat.ne_of_lt h), Nat.le_succ _⟩
    have hlen : (S ++ [some (Kd.lst, acc)]).length = S.length + 1 := by simp
    have hal : ∀ n, Al (S ++ [some (Kd.lst, acc)]) n → (Al S n ∧ (g.addR S.length D).r n = g.r n) ∨ (n = S.length ∧ (g.addR S.length D).r n = D) := fun n hn => by
      obtain ⟨q, e⟩ := hn
      by_cases hl : n < S.length
      · rw [List.getElem?_append_left hl] at e
        exact Or.inl ⟨⟨q, e⟩, if_neg (Nat.ne_of_lt hl)⟩
      · have : n = S.length := by
          have := (List.getElem?_eq_some_iff.mp e).1
          rw [hlen] at this
          omega
        exact Or.inr ⟨this, if_pos this⟩
    refine ⟨g.addR S.length D, ⟨⟨fun n k xs q => ?_, fun n m hn hm e => ?_, fun n hn z => ?_, fun n hn z => ?_, fun a z => r.tr a z⟩, w.ext.frame, fun n hn => ?_, fun n hn => ?_, Nat.le_trans w.ext.len (by show S.length ≤ (S ++ [some (Kd.lst, acc)]).length; rw [hlen]; exact Nat.le_succ _), w.ext.fr, w.ext.tt, w.ext.trk, w.ext.nf⟩, ?_⟩
    · have q : (S ++ [some (Kd.lst, acc)])[n]? = some (some (k, xs)) := q
      show ∃ o vs, _ ∧ _ ∧ _ ∧ RVs Y H (g.addR S.length D) (S ++ [some (Kd.lst, acc)]).length xs vs
      rw [hlen]
      rcases hal n ⟨_, q⟩ with ⟨h1, h2⟩ | ⟨h1, h2⟩
      · rw [List.getElem?_append_left h1.lt] at q
        obtain ⟨u, ws, q1, q2, q3, q4⟩ := r.ob n k xs q
        exact ⟨u, ws, by rw [h2]; exact q1, q2, q3, RVs.mono up _ _ q4⟩
      · subst h1
        rw [List.getElem?_append_right (Nat.le_refl _)] at q
        simp only [Nat.sub_self, List.getElem?_cons_zero, Option.some.injEq, Prod.mk.injEq] at q
        obtain ⟨rfl, rfl⟩ := q
        exact ⟨_, vs, by rw [h2]; exact hD, rfl, by decide, RVs.mono up _ _ hv⟩
    · rcases hal n hn with ⟨h1, h2⟩ | ⟨h1, h2⟩
      · rcases hal m hm with ⟨h3, h4⟩ | ⟨h3, h4⟩
        · rw [h2, h4] at e
          exact r.inj n m h1 h3 e
        · rw [h2, h4] at e
          exact absurd e (w.own n h1)
      · rcases hal m hm with ⟨h3, h4⟩ | ⟨h3, h4⟩
        · rw [h2, h4] at e
          exact absurd e.symm (w.own m h3)
        · exact h1.trans h3.symm
    · have z : g.F ((g.addR S.length D).r n) := z
      rcases hal n hn with ⟨h1, h2⟩ | ⟨h1, h2⟩
      · rw [h2] at z; exact r.fF n h1 z
      · rw [h2] at z; exact w.fF z
    · have z : g.T ((g.addR S.length D).r n) := z
      rcases hal n hn with ⟨h1, h2⟩ | ⟨h1, h2⟩
      · rw [h2] at z; exact r.fT n h1 z
      · rw [h2] at z; exact w.fT z
    · rcases hal n hn with ⟨h1, h2⟩ | ⟨h1, h2⟩
      · rw [h2]; exact w.ext.old n h1
      · exact Or.inr (by rw [h2]; exact w.no)
    · exact (if_neg (Nat.ne_of_lt (Nat.lt_of_lt_of_le hn w.ext.len))).trans (w.ext.rho n hn)
    · show RV Y H (g.addR S.length D) (S ++ [some (Kd.lst, acc)]).length (.ref S.length) (.ref D)
      simp only [RV]
      exact ⟨by rw [hlen]; exact Nat.lt_succ_self _, by rw [show (g.addR S.length D).r S.length = D from if_pos rfl]⟩
/-- the targets of a comprehension: what they store are the block's own slots -/
structure CG (X : Cx) (gV : TG) (gt : GF) (vs : List Nat) : Prop where
  ok : ∀ (W : WX) (v : V) (σ0 : L2.St) (H : Hp) (g : G) (S : Sto) (Γ : Gam) (p : PV) (Q : L2.St → Hp → Prop), Rel X H g S → RG X H g S.length Γ (L2.wipe σ0 vs) → RV X H g S.length p v → ∀ Γ1 S1, gt p Γ S = .ok Γ1 S1 →
    (∀ σ2, S1 = S → RG X H g S.length Γ1 σ2 → L2.wipe σ2 vs = L2.wipe σ0 vs → Q σ2 H) → gV v (L2.wipe σ0 vs) H Q
theorem wipe_set {σ0 : L2.St} {i : Nat} {z : Option V} {vs : List Nat} (h : i ∈ vs) : L2.wipe (σ0.set i z) vs = L2.wipe σ0 vs := by
  induction vs with
  | nil => cases h
  | cons v vs ih =>
    unfold L2.wipe
    by_cases e : i ∈ vs
    · rw [ih e]
    · have e2 : i = v := by
        rcases List.mem_cons.mp h with h | h
        · exact h
        · exact absurd h e
      subst e2
      have : ∀ (vs : List Nat), i ∉ vs → L2.wipe (σ0.set i z) vs = (L2.wipe σ0 vs).set i z := fun vs => by
        induction vs with
        | nil => intro _; rfl
        | cons v vs ih =>
          intro h
          unfold L2.wipe
          have h1 : i ≠ v := fun e => h (by rw [e]; exact List.mem_cons_self)
          rw [ih fun e => h (List.mem_cons_of_mem _ e), List.set_comm _ _ h1]
      rw [this vs e, List.set_set]
theorem wipe_wipe (σ0 : L2.St) : ∀ (us vs : List Nat), (∀ i ∈ vs, i ∈ us) → L2.wipe (L2.wipe σ0 vs) us = L2.wipe σ0 us
  | us, [], _ => rfl
  | us, v :: vs, h => by
    show L2.wipe ((L2.wipe σ0 vs).set v none) us = _
    rw [wipe_set (h v List.mem_cons_self)]
    exact wipe_wipe σ0 us vs fun i hi => h i (List.mem_cons_of_mem _ hi)
theorem CG.name {i : Nat} {vs : List Nat} (hi : i ∈ vs) : CG X (gName i) (gN i) vs := ⟨fun W v σ0 H g S Γ p Q rel rg rv Γ1 S1 e k => by
  cases e
  exact k _ rfl (rg.set rv) (by rw [wipe_set hi]; exact wipe_wipe σ0 vs vs fun _ h => h)⟩
/-- names, for a tuple -/
def gNamesV : List Nat → TGs
  | [] => gNil
  | i :: is => gCons (gName i) (gNamesV is)
theorem cg_names : ∀ (is : List Nat) {vs : List Nat} {ps : List PV} {ws : List V} {σ1 σ0 : L2.St} {H : Hp} {g : G} {L : Nat} {Γ Γ1 : Gam} {S S1 : Sto} {Q : L2.St → Hp → Prop} {Y : Kx}, (∀ i ∈ is, i ∈ vs) → RG Y H g L Γ σ1 → L2.wipe σ1 vs = L2.wipe σ0 vs → RVs Y H g L ps ws → gNs is ps Γ S = .ok Γ1 S1 →
    (∀ σ2, S1 = S → RG Y H g L Γ1 σ2 → L2.wipe σ2 vs = L2.wipe σ0 vs → Q σ2 H) → gNamesV is ws σ1 H Q
  | [], vs, ps, ws, σ1, σ0, H, g, L, Γ, Γ1, S, S1, Q, Y, _, rg, hw, rv, e, k => by
    cases ps with
    | nil =>
      simp only [RVs] at rv
      cases e
      exact ⟨rv, k σ1 rfl rg hw⟩
    | cons _ _ => cases e
  | i :: is, vs, ps, ws, σ1, σ0, H, g, L, Γ, Γ1, S, S1, Q, Y, hi, rg, hw, rv, e, k => by
    cases ps with
    | nil => cases e
    | cons p ps =>
      simp only [RVs] at rv
      obtain ⟨v, r, rfl, h2, h3⟩ := rv
      exact ⟨v, r, rfl, cg_names is (fun i h => hi i (List.mem_cons_of_mem _ h)) (rg.set h2) (by rw [wipe_set (hi i List.mem_cons_self)]; exact hw) h3 e k⟩
theorem CG.tup {is : List Nat} {n : Nat} {vs : List Nat} (hi : ∀ i ∈ is, i ∈ vs) (hn : is.length = n) : CG X (gTup X.K n (gNamesV is)) (gT is) vs := ⟨fun W v σ0 H g S Γ p Q rel rg rv Γ1 S1 e k => by
  unfold gT at e
  split at e
  · rename_i xs hd
    obtain ⟨a, ws, rfl, h2, h3⟩ := deref_ok rel rv hd
    exact ⟨a, ws, rfl, h3.tup, by rw [← h2.len, gNs_len ⟨_, _, e⟩, hn], cg_names is hi rg (wipe_wipe σ0 vs vs fun _ h => h) h2 e k⟩
  · cases e⟩
abbrev W0 : WX := fun _ _ _ _ => False
theorem lc_imp {wi : TI} {gV : TG} {gt : GF} {tt : BF} {te : EF} {it : IF} {vs : List Nat} {mu : Bool} {X' : Cx} {W' : WX} (src : SrcOK X W wi it) (cg : CG X gV gt vs) {σ : L2.St} {H : Hp} {Q : VK} (hX : kx X' = kx X) (h : lift X W (eLc mu it gt tt te vs) σ H Q) :
    tLc wi gV (liftB X' W' tt) (lift X' W' te) vs σ H Q := by
  obtain ⟨g, Γ, S, rel, rg, ok⟩ := h
  refine src σ H g Γ S _ rel rg (OKw.mono (OKw.bind ok) fun q S1 g1 H1 _ e1 h1 J hJ D hD => ?_)
  have h1 : OKw X W σ H1 g1 S1 ((lcI q.1 gt tt te (wipeG Γ vs) q.2 0 [] S1).bind fun acc S2 => .ok (newP mu .lst acc S2).1 (newP mu .lst acc S2).2) (fun v S' g' H' => ∀ x, RV X H' g' S'.length v x → Q x H') := h1
  have noex : ∀ m i acc S, (∃ acc' S', lcI q.1 gt tt te (wipeG Γ vs) m i acc S = .ok acc' S') ∨ lcI q.1 gt tt te (wipeG Γ vs) m i acc S = .bad := fun m => by
    induction m with
    | zero => intro i acc S; exact Or.inr rfl
    | succ m ih =>
      intro i acc S
      unfold lcI
      split
      · exact Or.inr rfl
      · exact Or.inl ⟨_, _, rfl⟩
      · split
        · split
          · split
            · split
              · exact ih _ _ _
              · exact Or.inr rfl
            · exact Or.inr rfl
          · exact ih _ _ _
          · exact Or.inr rfl
        · exact Or.inr rfl
  obtain ⟨res, Sr, hres⟩ : ∃ res Sr, lcI q.1 gt tt te (wipeG Γ vs) q.2 0 [] S1 = .ok res Sr := by
    rcases noex q.2 0 [] S1 with h | h
    · exact h
    · rw [h] at h1; exact h1.elim
  rw [hres] at h1
  have fin : ∀ g' H', Ext X H1 g1 S1 H' g' (newP mu .lst res Sr).2 → ∀ x, RV X H' g' (newP mu .lst res Sr).2.length (newP mu .lst res Sr).1 x → Q x H' := fun g' H' e x rx => h1 g' H' e x rx
  have w0 : Grw X H1 g1 S1 D (upd H1 D (.lst [])) g1 S1 := by
    have r := e1.rel
    have up : Up H1 g1 S1.length (upd H1 D (.lst [])) g1 S1.length := ⟨fun a u h _ => by rw [upd_ne (ne_of_none h hD)]; exact h, fun _ h => h, fun _ h => h, fun _ _ => rfl, Nat.le_refl _⟩
    have own : ∀ n, Al S1 n → g1.r n ≠ D := fun n hn z => by
      obtain ⟨u, e⟩ := r.tracked hn
      rw [z, hD] at e; cases e
    refine ⟨⟨⟨fun n k xs q => ?_, r.inj, r.fF, r.fT, fun a z => ?_⟩, fun a u h _ => by rw [upd_ne (ne_of_none h hD)]; exact h, fun n hn => Or.inl ⟨hn, rfl⟩, fun _ _ => rfl, Nat.le_refl _, fun _ h => h, rfl, fun a u h => ⟨u, by rw [upd_ne (ne_of_none h hD)]; exact h⟩, fun _ h => Or.inl h⟩, hD, own, fun z => ?_, fun z => ?_⟩
    · obtain ⟨u, ws, q1, q2, q3, q4⟩ := r.ob n k xs q
      exact ⟨u, ws, by rw [upd_ne (own n ⟨_, q⟩)]; exact q1, q2, q3, RVs.mono up _ _ q4⟩
    · by_cases z2 : a = D
      · exact ⟨_, by rw [z2, upd_same]⟩
      · rw [upd_ne z2]; exact r.tr a z
    · obtain ⟨u, q⟩ := r.tr D (Or.inl z); rw [hD] at q; cases q
    · obtain ⟨u, q⟩ := r.tr D (Or.inr z); rw [hD] at q; cases q
  refine ⟨fun i m H2 => ∃ g2 S2 acc ws, Grw X H1 g1 S1 D H2 g2 S2 ∧ H2 D = some (.lst ws) ∧ RVs X H2 g2 S2.length acc ws ∧ lcI q.1 gt tt te (wipeG Γ vs) m i acc S2 = .ok res Sr, ⟨q.2, g1, S1, [], [], w0, upd_same, RVs.nil, hres⟩, ?_⟩
  rintro i m H2 ⟨g2, S2, acc, ws, w2, hD2, ra, hl⟩
  cases m with
  | zero => cases hl
  | succ m =>
    obtain ⟨j1, j2⟩ := hJ g2 H2 S2 i w2.ext
    unfold lcI at hl
    cases hst : q.1 S2 i with
    | none => rw [hst] at hl; cases hl
    | some z =>
      rw [hst] at hl
      cases z with
      | none =>
        cases hl
        obtain ⟨g', q1, q2⟩ := w2.fin (mu := mu) hD2 ra
        exact Or.inl ⟨j2 hst, fin g' H2 q1 _ q2⟩
      | some p =>
        obtain ⟨j3, j4⟩ := j1 p hst
        refine Or.inr ⟨j3, fun H3 => ∃ g3 S3 acc ws, Grw X H1 g1 S1 D H3 g3 S3 ∧ H3 D = some (.lst ws) ∧ RVs X H3 g3 S3.length acc ws ∧ lcI q.1 gt tt te (wipeG Γ vs) m (i + 1) acc S3 = .ok res Sr, fun H3 h3 => ⟨m, Nat.lt_succ_self m, h3⟩, fun x H3 y => ?_⟩
        obtain ⟨g3, e3, rvx⟩ := j4 x H3 y
        obtain ⟨w3, hD3⟩ := w2.step hD2 e3
        have ra3 := RVs.up w2.ext.rel e3 _ _ ra
        have rg3 : RG X H3 g3 S2.length (wipeG Γ vs) (L2.wipe σ vs) := RG.wipe ((rg.up rel e1).up e1.rel w3.ext) vs
        cases hgt : gt p (wipeG Γ vs) S2 with
        | bad => simp only [hgt] at hl; cases hl
        | ex c fs S => simp only [hgt] at hl; cases hl
        | ok Γ4 S4 =>
          simp only [hgt] at hl
          refine cg.ok W x σ H3 g3 S2 _ p _ w3.ext.rel rg3 rvx Γ4 S4 hgt fun σ4 eS rg4 hw => ?_
          subst eS
          refine ⟨hw, ?_⟩
          cases htt : tt Γ4 S4 with
          | bad => simp only [htt] at hl; cases hl
          | ex c fs S => simp only [htt] at hl; cases hl
          | ok bv S5 =>
            simp only [htt] at hl
            have hT : liftB X' W' tt σ4 H3 = fun Q => ∃ g Γ S, Rel (kx X) H3 g S ∧ RG (kx X) H3 g S.length Γ σ4 ∧ OKw (kx X) W' σ4 H3 g S (tt Γ S) fun b _ _ H' => Q b H' := by
              funext Q
              show (∃ g Γ S, Rel (kx X') H3 g S ∧ RG (kx X') H3 g S.length Γ σ4 ∧ OKw (kx X') W' σ4 H3 g S (tt Γ S) fun b _ _ H' => Q b H') = _
              rw [hX]
            rw [hT]
            refine ⟨g3, Γ4, S4, w3.ext.rel, rg4, ?_⟩
            rw [htt]
            intro g5 H5 e5
            obtain ⟨w5, hD5⟩ := w3.step hD3 e5
            have ra5 := RVs.up w3.ext.rel e5 _ _ ra3
            cases bv with
            | false =>
              rw [if_neg Bool.false_ne_true]
              exact ⟨g5, S5, acc, ws, w5, hD5, ra5, hl⟩
            | true =>
              rw [if_pos rfl]
              cases hte : te Γ4 S5 with
              | bad => simp only [hte] at hl; cases hl
              | ex c fs S => simp only [hte] at hl; cases hl
              | ok v S6 =>
                simp only [hte] at hl
                split at hl
                · rename_i hlen
                  have hE : ∀ Q, lift X' W' te σ4 H5 Q = ∃ g Γ S, Rel (kx X) H5 g S ∧ RG (kx X) H5 g S.length Γ σ4 ∧ OKw (kx X) W' σ4 H5 g S (te Γ S) fun v S' g' H' => ∀ x, RV (kx X) H' g' S'.length v x → Q x H' := by
                    intro Q
                    show (∃ g Γ S, Rel (kx X') H5 g S ∧ RG (kx X') H5 g S.length Γ σ4 ∧ OKw (kx X') W' σ4 H5 g S (te Γ S) fun v S' g' H' => ∀ x, RV (kx X') H' g' S'.length v x → Q x H') = _
                    rw [hX]
                  rw [hE]
                  refine ⟨g5, Γ4, S5, w5.ext.rel, rg4.up w3.ext.rel e5, ?_⟩
                  rw [hte]
                  intro g6 H6 e6 x6 rv6
                  obtain ⟨w6, hD6⟩ := w5.step hD5 e6
                  have ra6 := RVs.up w5.ext.rel e6 _ _ ra5
                  obtain ⟨w7, up7⟩ := w6.put (o' := .lst (ws ++ [x6])) hD6 trivial
                  refine ⟨ws, hD6, by rw [← ra6.len]; exact hlen, g6, S6, acc ++ [v], ws ++ [x6], w7, upd_same, (RVs.mono up7 _ _ ra6).append (RVs.cons (RV.mono up7 _ _ rv6) RVs.nil), hl⟩
                · cases hl
end
end Pv

/-! Pv8: comprehensions as expressions; defs over the store; lists changed; what is built in. -/
namespace Pv
open PySem PySem.Spec PyProof.Rows L2
section
variable {X : Cx} {H H' H'' H0 : Hp} {g g' g'' g0 : G} {S S' S'' S0 : Sto} {W : WX} {a b c e o l tg elt iter : Expr} {es rest ifs : List Expr} {ta tb tc to te : EF} {tr : AF} {pos p apos cpos spos : Pos} {Γ : Gam} {σ : L2.St} {x m : Str} {k j : Nat}

/-! ### comprehensions -/
def Ts (X : Cx) (W : WX) (ifs : List Expr) (t : BF) : Prop := PTs X ifs (liftB X W t)
def bYes : BF := fun _ S => .ok true S
theorem Ts.nil : Ts X W [] bYes := ⟨fun pins s σ H Q I ⟨g, Γ, S, rel, rg, ok⟩ => pts_nil.run pins s σ H Q I (OKw.ok rel ok)⟩
theorem Ts.one {t : BF} (h : B X W c t) : Ts X W [c] t := pts_one h
section
variable {scope : Scope} {own : List (Str × Nat)} {it : IF} {gV : TG} {gt : GF} {tt : BF}
theorem E.lc (mu : Bool) (hc : X.calm = true) (hN : X.N.Nodup) (hi : I X W tg iter it) (ok : BlkOk X.N X.env.scope scope own) (cg : CG X gV gt (own.map (·.2)))
    (hg : ∀ (s : Shared) (H : Hp) (C : Addr) (cl : List (Str × Addr)) (fp : List Addr), PG (X.blk s H scope (compEnvC scope cl C X.env) fp) tg gV)
    (ht : ∀ (s : Shared) (H : Hp) (C : Addr) (cl : List (Str × Addr)) (fp : List Addr), Ts (X.blk s H scope (compEnvC scope cl C X.env) fp) W0 ifs tt)
    (he : ∀ (s : Shared) (H : Hp) (C : Addr) (cl : List (Str × Addr)) (fp : List Addr), E (X.blk s H scope (compEnvC scope cl C X.env) fp) W0 elt te) (hs : ∀ x, foldedSetIterable iter X.env x = pure x := by intro _; rfl) :
    E X W (.ListComp elt [⟨tg, iter, ifs, 0⟩] scope pos) (eLc mu it gt tt te (own.map (·.2))) := by
  obtain ⟨wi, pi, src⟩ := hi
  exact pe_imp (pe_lc (tt := liftB X W0 tt) (te := lift X W0 te) hc hN pi ok hg ht he hs) fun σ H Q h => lc_imp (X' := X) (W' := W0) src cg rfl h
theorem St.setLc (mu : Bool) {i : Nat} {y : Str} {py : Pos} (hc : X.calm = true) (hN : X.N.Nodup) (hy : X.N[i]? = some y) (hyl : X.env.scope.names.lookup y = some .local)
    (hsw : swapsWith (.ListComp elt [⟨tg, iter, ifs, 0⟩] scope pos) (some (.Name y py)) spos.line X.env = pure true) (hi : I X W tg iter it) (ok : BlkOk X.N X.env.scope scope own) (cg : CG X gV gt (own.map (·.2)))
    (hg : ∀ (s : Shared) (H : Hp) (C : Addr) (cl : List (Str × Addr)) (fp : List Addr), PG (X.blk s H scope (compEnvC scope cl C X.env) fp) tg gV)
    (ht : ∀ (s : Shared) (H : Hp) (C : Addr) (cl : List (Str × Addr)) (fp : List Addr), Ts (X.blk s H scope (compEnvC scope cl C X.env) fp) W0 ifs tt)
    (he : ∀ (s : Shared) (H : Hp) (C : Addr) (cl : List (Str × Addr)) (fp : List Addr), E (X.blk s H scope (compEnvC scope cl C X.env) fp) W0 elt te) (hs : ∀ x, foldedSetIterable iter X.env x = pure x := by intro _; rfl) :
    St X W (.Assign [.Name y py] (.ListComp elt [⟨tg, iter, ifs, 0⟩] scope pos) spos) (sSet i (eLc mu it gt tt te (own.map (·.2)))) := by
  obtain ⟨wi, pi, src⟩ := hi
  exact ps_imp (ps_setLc (tt := liftB X W0 tt) (te := lift X W0 te) hc hN hy hyl hsw pi ok hg ht he hs) fun D σ H h => by
    obtain ⟨g, Γ, S, rel, rg, okk⟩ := h
    exact lc_imp (X' := X) (W' := W0) (mu := mu) src cg rfl ⟨g, Γ, S, rel, rg, OKw.mono (OKs.st rel rg okk) fun v S1 g1 H1 _ e1 h1 x rx => h1 g1 H1 _ (Ext.refl e1.rel) ((rg.up rel e1).set rx)⟩
end

/-! ### a def over the store -/
def runW (np n : Nat) (body : SF) (args : List PV) (S : Sto) : R PV := if args.length = np then (match body (args.map some ++ List.replicate (n - args.length) none) S with
  | .nx _ S' => .ok .non S'
  | .rt v S' => .ok v S'
  | .ex c fs _ S' => .ex c fs S'
  | _ => .bad) else .bad
def OKc (Y : Kx) (H : Hp) (g : G) (S : Sto) (r : R PV) (Q : VK) (E : XK) : Prop := match r with
  | .ok v S' => ∀ g' H' x, Ext Y H g S H' g' S' → RV Y H' g' S'.length v x → Q x H'
  | .ex c fs S' => ∀ g' H' cls d, Ext Y H g S H' g' S' → RX Y H' g' S'.length c fs cls d → E cls d H'
  | .bad => False
def spW (Y : Kx) (f : List PV → Sto → R PV) : Sp := fun vs H Q E => ∃ (g : G) (S : Sto) (ps : List PV), Rel Y H g S ∧ RVs Y H g S.length ps vs ∧ OKc Y H g S (f ps S) Q E
def eCallW (f : List PV → Sto → R PV) (t : AF) : EF := fun Γ S => (t Γ S).bind fun ps S1 => f ps S1
theorem E.callW {f : List PV → Sto → R PV} (c : Cal X.prog X.w X.K X.mg X.base k x (spW X f)) (hr : Room j X.A) (tk : Takes X W) (hg : Gl X x) (ha : A X W (e :: es) tr) (hk : k ≤ j := by decide)
    (hdb : (x == ("__debug__" : Str)) = false := by decide) (he : starEach (e :: es) X.env = (false, eval e X.env) :: starEach es X.env := by rfl) (hpl : (backTo pos (starEach es X.env)).any (·.1) = false := by rfl) :
    E X W (.Call (.Name x p) (e :: es) [] pos) (eCallW f tr) := by
  obtain ⟨fa, fd, ps, F, hm, kp, b⟩ := c.ex
  refine pe_imp (pe_callS F (hr.mono hk) hg hm kp b (passAt tk) ha hdb he hpl) fun σ H Q ⟨g, Γ, S, rel, rg, ok⟩ => ?_
  refine ⟨g, Γ, S, rel, rg, OKw.mono (OKw.bind ok) fun ps S1 g1 H1 _ e1 h1 xs rxs => ⟨g1, S1, ps, e1.rel, rxs, ?_⟩⟩
  cases q : f ps S1 with
  | ok v S2 => rw [q] at h1; exact fun g' H' x e2 rv => h1 g' H' e2 x rv
  | ex c fs S2 => rw [q] at h1; exact fun g' H' cls d e2 rx => h1 g' H' cls d e2 rx
  | bad => rw [q] at h1; exact h1
section
variable {P : Program} {w : World} {K : PySem.W.Frag} {mg : Str → Option Value} {base : Heap}
theorem Cal.mkW {x qual : Str} {st : Stmt} {dvs : List V} {kws : List (Str × V)} {f : Addr} {fd : FuncData} {N ps : List Str} {k np n : Nat} {body : SF} (F : FunD K x qual (defArgs st) (defBody st) (defScope st) dvs kws f fd) (hm : mg x = some (.ref f)) (S : FnScope N ps (defScope st)) (b : Binds K fd ps []) (hnp : ps.length = np) (hn : N.length = n)
    (hbody : ∀ (X : Cx) (W : WX), X.prog = P → X.w = w → X.K = K → X.mg = mg → X.base = base → Body X W N (defScope st) k → Ss X W (defBody st) body) : Cal P w K mg base (k + 1) x (spW ⟨K, mg⟩ (runW np n body)) := by
  refine ⟨f, fd, ps, F.ok S (fun vs H Q E ⟨g, S, qs, h0, h1, h3⟩ => ?_) (fun cdv A outer s H vs Q E hr ⟨g, S, qs, h0, h1, h3⟩ => ?_), hm, F.kp, b⟩
  · unfold runW at h3
    split at h3
    · rename_i e
      rw [← h1.len, e, hnp]
    · exact h3.elim
  · unfold runW at h3
    split at h3
    · rename_i elen
      subst hn
      let X := cxOf (L2.CX P w) P w K mg base N qual (defScope st) f cdv A outer s H E
      have tk : Takes X (fun cls d _ H => E cls d H) := takes_of rfl rfl rfl rfl
      have hb := hbody X (fun cls d _ H => E cls d H) rfl rfl rfl rfl rfl ⟨rfl, rfl, rfl, fun _ => rfl, hr, tk, passes_of rfl, rfl, rfl⟩
      refine ⟨_, hb, g, _, S, h0, start_rg (n := 0) h1, ?_⟩
      generalize eb : body (qs.map some ++ List.replicate (N.length - qs.length) none) S = r at h3
      cases r with
      | nx Γ' S' => exact fun g' H' σ' e1 _ => h3 g' H' .non e1 RV.non
      | rt v S' => exact fun g' H' x e1 rv => h3 g' H' x e1 rv
      | ex c fs Γ' S' => exact fun g' H' σ' cls d e1 _ rx => h3 g' H' cls d e1 rx
      | bk Γ' S' => exact h3.elim
      | ct Γ' S' => exact h3.elim
      | bad => exact h3.elim
    · exact h3.elim
end

/-! ### methods of what is built in -/
abbrev MF := PV → List PV → Sto → Option (PV × Sto)
/-- the receiver is of the type T -/
def tyP (T : String) (S : Sto) (p : PV) : Bool := match p with
  | .str _ => T == "str"
  | p => match deref S p with
    | some (.lst, _) => T == "list"
    | _ => false
def eM (T : String) (f : MF) (t : EF) (r : AF) : EF := fun Γ S => (t Γ S).bind fun p S1 => if tyP T S1 p = true then (r Γ S1).bind fun ps S2 => R.of (f p ps S2) else .bad
def MtF (X : Kx) (r : V → List V → Hp → VK → Prop) (f : MF) : Prop := ∀ (H : Hp) (g : G) (S : Sto) (p : PV) (ps : List PV) (x : V) (xs : List V) (w : PV) (S' : Sto) (Q : VK), Rel X H g S → RV X H g S.length p x → RVs X H g S.length ps xs → f p ps S = some (w, S') →
  (∀ g' H' z, Ext X H g S H' g' S' → RV X H' g' S'.length w z → Q z H') → r x xs H Q
theorem tyP_ok {Y : Kx} {T : String} {p : PV} {x : V} (rel : Rel Y H g S) (rv : RV Y H g S.length p x) (h : tyP T S p = true) : tyV Y.K T x H := by
  unfold tyP at h
  split at h
  · rw [rv.str_inv]
    exact beq_iff_eq.mp h
  · split at h
    · rename_i xs e
      obtain ⟨a, vs, rfl, h2, h3⟩ := deref_ok rel rv e
      exact Or.inl ⟨beq_iff_eq.mp h, vs, h3.lst⟩
    · cases h
theorem bm_imp {T : String} {r : V → List V → Hp → VK → Prop} {f : MF} (hf : MtF X r f) {σ : L2.St} {H : Hp} {Q : VK} (h : lift X W (eM T f to tr) σ H Q) : tBM X.K T r (lift X W to) (liftA X W tr) σ H Q := by
  obtain ⟨g, Γ, S, rel, rg, ok⟩ := h
  refine ⟨g, Γ, S, rel, rg, OKw.mono (OKw.bind ok) fun p S1 g1 H1 _ e1 h1 x rx => ?_⟩
  split at h1
  · rename_i ht
    refine ⟨tyP_ok e1.rel rx ht, g1, Γ, S1, e1.rel, rg.up rel e1, OKw.mono (OKw.bind h1) fun ps S2 g2 H2 _ e2 h2 xs rxs => ?_⟩
    cases hw : f p ps S2 with
    | none => rw [hw] at h2; exact h2.elim
    | some z =>
      obtain ⟨w, S3⟩ := z
      rw [hw] at h2
      exact hf H2 g2 S2 p ps x xs w S3 Q e2.rel (RV.up e1.rel e2 _ _ rx) rxs hw fun g' H' z e3 rz => h2 g' H' e3 z rz
  · exact h1.elim
section
variable {T id : String} {r : V → List V → Hp → VK → Prop} {f : MF}
theorem E.bm (pa : PlainAttrs T) (slot : Slot T m id) (hty : typeOf (.builtin id) = pure (.type "method_descriptor")) (hm : MtR X id r) (hf : MtF X r f) (ho : E X W o to) (ha : A X W (e :: es) tr)
    (hbase : attributeBase o m X.env (eval o X.env) = eval o X.env := by rfl)
    (hfew : ((backTo cpos (starEach (e :: es) X.env)).all (fun x => !x.1) && (backToKw cpos (keywordEach [] X.env)).all (fun x => x.1.isSome)
      && decide ((e :: es).length + ([] : List Keyword).length + (if ([] : List Keyword).isEmpty then 0 else 1) < 30)) = true := by rfl)
    (hline : (apos.endLine == cpos.line) = true := by rfl) (hs : starEach (e :: es) X.env = (false, eval e X.env) :: starEach es X.env := by rfl) (hplain : (backTo cpos (starEach es X.env)).any (·.1) = false := by rfl) :
    E X W (.Call (.Attribute o m apos) (e :: es) [] cpos) (eM T f to tr) :=
  pe_imp (pe_bm pa slot hty hm ho ha hbase hfew hline hs hplain) fun _ _ _ h => bm_imp hf h
theorem E.bm0 (pa : PlainAttrs T) (slot : Slot T m id) (hty : typeOf (.builtin id) = pure (.type "method_descriptor")) (hm : MtR X id r) (hf : MtF X r f) (h : ∀ {to : TE}, PE X o to → PE X (.Call (.Attribute o m apos) [] [] cpos) (tBM X.K T r to tNil)) (ho : E X W o to) :
    E X W (.Call (.Attribute o m apos) [] [] cpos) (eM T f to aNil) :=
  pe_imp (h ho) fun σ H Q ⟨g, Γ, S, rel, rg, ok⟩ => ⟨g, Γ, S, rel, rg, OKw.mono (OKw.bind ok) fun p S1 g1 H1 _ e1 h1 x rx => by
    split at h1
    · rename_i ht
      refine ⟨tyP_ok e1.rel rx ht, ?_⟩
      have h1 : OKw X W σ H1 g1 S1 (R.of (f p [] S1)) _ := h1
      cases hw : f p [] S1 with
      | none => rw [hw] at h1; exact h1.elim
      | some z =>
        obtain ⟨w, S3⟩ := z
        rw [hw] at h1
        exact hf H1 g1 S1 p [] x [] w S3 Q e1.rel rx RVs.nil hw fun g' H' z e3 rz => h1 g' H' e3 z rz
    · exact h1.elim⟩
end
/-! lists changed -/
def lstF (f : List PV → List PV → Option (PV × List PV)) : MF := fun p ps S => match p with
  | .ref n => match S[n]?.join with
    | some (.lst, xs) => (f xs ps).map fun q => (q.1, S.set n (some (.lst, q.2)))
    | _ => none
  | _ => none
theorem lstF_inv {f : List PV → List PV → Option (PV × List PV)} {Y : Kx} {p : PV} {ps : List PV} {x : V} {w : PV} (rel : Rel Y H g S) (rv : RV Y H g S.length p x) (h : lstF f p ps S = some (w, S')) :
    ∃ n xs vs xs', p = .ref n ∧ x = .ref (g.r n) ∧ S[n]? = some (some (.lst, xs)) ∧ H (g.r n) = some (.lst vs) ∧ RVs Y H g S.length xs vs ∧ f xs ps = some (w, xs') ∧ S' = S.set n (some (.lst, xs')) := by
  unfold lstF at h
  split at h
  · rename_i n
    split at h
    · rename_i xs ej
      simp only [Option.map_eq_some_iff] at h
      obtain ⟨q, h1, h2⟩ := h
      cases h2
      have hn := join_some ej
      obtain ⟨o, vs, q1, q2, _, q4⟩ := rel.ob n _ _ hn
      cases q2
      simp only [RV] at rv
      exact ⟨n, xs, vs, q.2, rfl, rv.2, hn, q1, q4, h1, rfl⟩
    · cases h
  · cases h
def appendF : MF := lstF fun xs ps => match ps with
  | [v] => if xs.length < sizeLine then some (.non, xs ++ [v]) else none
  | _ => none
theorem mtf_append : MtF X rAppend appendF := by
  intro H g S p ps x xs w S' Q rel rx rxs h k
  obtain ⟨n, ys, vs, ys', rfl, rfl, hn, hH, hr, hf, rfl⟩ := lstF_inv rel rx h
  split at hf
  · split at hf
    · rename_i v hl
      cases hf
      simp only [RVs] at rxs
      obtain ⟨u, r, rfl, h2, rfl⟩ := rxs
      exact ⟨g.r n, vs, u, rfl, rfl, hH, by rw [← hr.len]; exact hl, k g _ _ (set_ok rel hn (o' := .lst (vs ++ [u])) rfl (by decide) (hr.append (RVs.cons h2 RVs.nil))) RV.non⟩
    · cases hf
  · cases hf
def popF : MF := lstF fun xs ps => match ps with
  | [] => (xs[xs.length - 1]?).map fun v => (v, xs.dropLast)
  | _ => none
theorem RVs.dropLast {Y : Kx} {L : Nat} {xs : List PV} {vs : List V} (h : RVs Y H g L xs vs) : RVs Y H g L xs.dropLast vs.dropLast := by
  rw [List.dropLast_eq_take, List.dropLast_eq_take, ← h.len]
  exact h.take _
theorem mtf_pop : MtF X rPop popF := by
  intro H g S p ps x xs w S' Q rel rx rxs h k
  obtain ⟨n, ys, vs, ys', rfl, rfl, hn, hH, hr, hf, rfl⟩ := lstF_inv rel rx h
  split at hf
  · simp only [Option.map_eq_some_iff] at hf
    obtain ⟨v, h1, h2⟩ := hf
    cases h2
    simp only [RVs] at rxs
    subst rxs
    obtain ⟨u, q1, q2⟩ := hr.get h1
    have e := set_ok (k' := .lst) rel hn (o' := .lst vs.dropLast) rfl (by decide) hr.dropLast
    exact ⟨g.r n, vs, u, rfl, rfl, hH, by rw [← hr.len]; exact q1, k g _ _ e (RV.up rel e _ _ q2)⟩
  · cases hf
def extendF : MF := fun p ps S => match ps with
  | [q] => match derefH S q with
    | some (.lst, ys) => lstF (fun xs _ => if xs.length + ys.length ≤ sizeLine then some (.non, xs ++ ys) else none) p ps S
    | _ => none
  | _ => none
theorem mtf_extend : MtF X rExtend extendF := by
  intro H g S p ps x xs w S' Q rel rx rxs h k
  unfold extendF at h
  split at h
  · rename_i q
    split at h
    · rename_i zs eq
      obtain ⟨n, ys, vs, ys', rfl, rfl, hn, hH, hr, hf, rfl⟩ := lstF_inv rel rx h
      simp only [RVs] at rxs
      obtain ⟨u, r, rfl, h2, rfl⟩ := rxs
      obtain ⟨b, ws, o, rfl, k2, k3, k4⟩ := derefH_ok rel h2 eq
      cases k3
      split at hf
      · rename_i hl
        cases hf
        exact ⟨g.r n, b, vs, ws, rfl, rfl, hH, k4, by rw [← hr.len, ← k2.len]; exact hl, k g _ _ (set_ok rel hn (o' := .lst (vs ++ ws)) rfl (by decide) (hr.append k2)) RV.non⟩
      · cases hf
    · cases h
  · cases h
def reverseF : MF := lstF fun xs ps => match ps with
  | [] => some (.non, xs.reverse)
  | _ => none
theorem RVs.reverse {Y : Kx} {L : Nat} : ∀ {xs : List PV} {vs : List V}, RVs Y H g L xs vs → RVs Y H g L xs.reverse vs.reverse
  | [], _, h => by simp only [RVs] at h; subst h; exact RVs.nil
  | x :: xs, _, h => by
    simp only [RVs] at h
    obtain ⟨v, r, rfl, h2, h3⟩ := h
    rw [List.reverse_cons, List.reverse_cons]
    exact (RVs.reverse h3).append (RVs.cons h2 RVs.nil)
theorem mtf_reverse : MtF X rReverse reverseF := by
  intro H g S p ps x xs w S' Q rel rx rxs h k
  obtain ⟨n, ys, vs, ys', rfl, rfl, hn, hH, hr, hf, rfl⟩ := lstF_inv rel rx h
  split at hf
  · cases hf
    simp only [RVs] at rxs
    subst rxs
    exact ⟨g.r n, vs, rfl, rfl, hH, k g _ _ (set_ok rel hn (o' := .lst vs.reverse) rfl (by decide) hr.reverse) RV.non⟩
  · cases hf

/-! ### o[i] = v -/
abbrev SetF := PV → PV → PV → Sto → Option Sto
def gSubF (f : SetF) (to ti : EF) : GF := fun v Γ S => (to Γ S).bind fun o S1 => (ti Γ S1).bind fun i S2 => match f o i v S2 with
  | some S3 => .ok Γ S3
  | none => .bad
def SetOK (X : Kx) (t : TSet) (f : SetF) : Prop := ∀ (H : Hp) (g : G) (S : Sto) (o i v : PV) (x y z : V) (S' : Sto) (Q : Hp → Prop), Rel X H g S → RV X H g S.length o x → RV X H g S.length i y → RV X H g S.length v z → f o i v S = some S' → (∀ g' H', Ext X H g S H' g' S' → Q H') → t x y z H Q
theorem Tg.sub {t : TSet} {f : SetF} (ho : E X W o to) (hi : E X W a ta) (hs : PSet X t) (hf : SetOK X t f)
    (ha : ∀ v, assign (.Subscript o a pos) X.env v = (do
      let ov ← holding [v] (eval o X.env)
      let iv ← holding [v, ov] (eval a X.env)
      standAt pos
      holding [v, ov, iv] (setItem ov iv v)
      release [v, ov, iv] []) := by intro _; rfl) : Tg X W (.Subscript o a pos) (gSubF f to ta) :=
  pg_imp (pg_sub ho hi hs ha) fun v σ H Q ⟨g, Γ, S, p, rel, rg, rv, ok⟩ => by
    refine ⟨g, Γ, S, rel, rg, OKw.mono (OKw.bind ok) fun o' S1 g1 H1 _ e1 h1 x rx => ?_⟩
    refine ⟨g1, Γ, S1, e1.rel, rg.up rel e1, OKw.mono (OKw.bind h1) fun i' S2 g2 H2 _ e2 h2 y ry => ?_⟩
    split at h2
    · rename_i S3 hw
      exact hf H2 g2 S2 o' i' p x y v S3 _ e2.rel (RV.up e1.rel e2 _ _ rx) ry (RV.up e1.rel e2 _ _ (RV.up rel e1 _ _ rv)) hw fun g' H' e3 => h2 g' H' e3 _ (((rg.up rel e1).up e1.rel e2).up e2.rel e3)
    · exact h2.elim
def setLF : SetF := fun o i v S => match o, i with
  | .ref n, .int k => match S[n]?.join with
    | some (.lst, xs) => (ixN xs.length k).map fun j => S.set n (some (.lst, xs.set j v))
    | _ => none
  | _, _ => none
theorem set_lst : SetOK X rSetL setLF := by
  intro H g S o i v x y z S' Q rel rx ry rz h k
  unfold setLF at h
  split at h
  · rename_i n i
    split at h
    · rename_i xs ej
      simp only [Option.map_eq_some_iff] at h
      obtain ⟨j, h1, rfl⟩ := h
      have hn := join_some ej
      obtain ⟨o, vs, q1, q2, _, q4⟩ := rel.ob n _ _ hn
      cases q2
      simp only [RV] at rx ry
      exact ⟨g.r n, vs, i, j, rx.2, ry, q1, by rw [← q4.len]; exact h1, k g _ (set_ok rel hn (o' := .lst (vs.set j z)) rfl (by decide) (q4.set rz))⟩
    · cases h
  · cases h

/-! ### what is built in, called by name -/
def lenF : CF := fun ps S => match ps with
  | [.str z] => if z.length ≤ sizeLine then some (.int z.length, S) else none
  | [p] => match deref S p with
    | some (.lst, xs) => some (.int xs.length, S)
    | some (.tup, xs) => some (.int xs.length, S)
    | _ => none
  | _ => none
theorem CallR.or {f : Value} {r r' : List V → Hp → VK → Prop} (h : CallR X f r) (h' : CallR X f r') : CallR X f (fun xs H Q => r xs H Q ∨ r' xs H Q) := by
  intro pins s σ H xs us Q I rs q
  rcases q with q | q
  · exact h pins s σ H xs us Q I rs q
  · exact h' pins s σ H xs us Q I rs q
theorem cf_len : CallF X (fun xs H Q => (∃ p ys, xs = [.ref p] ∧ (SqL X.K H p ys ∨ SqT X.K H p ys) ∧ Q (.int ys.length) H) ∨ ∃ z, xs = [.str z] ∧ z.length ≤ sizeLine ∧ Q (.int z.length) H) lenF := by
  intro H g S ps xs w S' Q rel rxs h k
  unfold lenF at h
  split at h
  · split at h
    · cases h
      simp only [RVs, RV] at rxs
      obtain ⟨_, _, rfl, rfl, rfl⟩ := rxs
      exact Or.inr ⟨_, rfl, by assumption, k g H _ (Ext.refl rel) RV.int⟩
    · cases h
  · rename_i p _
    simp only [RVs] at rxs
    obtain ⟨v, _, rfl, h2, rfl⟩ := rxs
    split at h
    · rename_i ys e
      obtain ⟨a, vs, rfl, h4, h5⟩ := deref_ok rel h2 e
      cases h
      exact Or.inl ⟨a, vs, rfl, Or.inl h5.lst, by rw [← h4.len]; exact k g H _ (Ext.refl rel) RV.int⟩
    · rename_i ys e
      obtain ⟨a, vs, rfl, h4, h5⟩ := deref_ok rel h2 e
      cases h
      exact Or.inl ⟨a, vs, rfl, Or.inr h5.tup, by rw [← h4.len]; exact k g H _ (Ext.refl rel) RV.int⟩
    · cases h
  · cases h
theorem cr_len : CallR X (.builtin "len") (fun xs H Q => (∃ p ys, xs = [.ref p] ∧ (SqL X.K H p ys ∨ SqT X.K H p ys) ∧ Q (.int ys.length) H) ∨ ∃ z, xs = [.str z] ∧ z.length ≤ sizeLine ∧ Q (.int z.length) H) := CallR.or call_len_seq call_len_str
def listF (mu : Bool) : CF := fun ps S => match ps with
  | [p] => match deref S p with
    | some (.lst, xs) => some (newP mu .lst xs S)
    | some (.tup, xs) => some (newP mu .lst xs S)
    | _ => none
  | _ => none
theorem cf_list {mu : Bool} : CallF X (fun xs H Q => ∃ p ys, xs = [.ref p] ∧ (SqL X.K H p ys ∨ SqT X.K H p ys) ∧ ∀ l, H l = none → Q (.ref l) (upd H l (.lst ys))) (listF mu) := by
  intro H g S ps xs w S' Q rel rxs h k
  unfold listF at h
  split at h
  · simp only [RVs] at rxs
    obtain ⟨v, _, rfl, h2, rfl⟩ := rxs
    split at h
    · rename_i ys e
      obtain ⟨a, vs, rfl, h4, h5⟩ := deref_ok rel h2 e
      refine ⟨a, vs, rfl, Or.inl h5.lst, fun l hl => ?_⟩
      obtain ⟨g', z1, z2⟩ := new_ok (m := mu) rel hl (k := .lst) (o := .lst _) rfl (by decide) h4
      simp only [Option.some.injEq] at h
      rw [h] at z1 z2
      exact k g' _ _ z1 z2
    · rename_i ys e
      obtain ⟨a, vs, rfl, h4, h5⟩ := deref_ok rel h2 e
      refine ⟨a, vs, rfl, Or.inr h5.tup, fun l hl => ?_⟩
      obtain ⟨g', z1, z2⟩ := new_ok (m := mu) rel hl (k := .lst) (o := .lst _) rfl (by decide) h4
      simp only [Option.some.injEq] at h
      rw [h] at z1 z2
      exact k g' _ _ z1 z2
    · cases h
  · cases h
def tupleF : CF := fun ps S => match ps with
  | [.con m .tup xs] => some (.con m .tup xs, S)
  | [p] => match deref S p with
    | some (.lst, xs) => some (.con .own .tup xs, S)
    | _ => none
  | _ => none
theorem cf_tuple : CallF X (fun xs H Q => ∃ p ys, xs = [.ref p] ∧ ((SqL X.K H p ys ∧ ∀ l, H l = none → Q (.ref l) (upd H l (.tup ys))) ∨ (SqT X.K H p ys ∧ Q (.ref p) H))) tupleF := by
  intro H g S ps xs w S' Q rel rxs h k
  unfold tupleF at h
  split at h
  · cases h
    simp only [RVs] at rxs
    obtain ⟨v, _, rfl, h2, rfl⟩ := rxs
    have h2' := h2
    simp only [RV] at h2
    obtain ⟨a, vs, rfl, h4, h5⟩ := h2
    exact ⟨a, vs, rfl, Or.inr ⟨h4.rdd.tup, k g H _ (Ext.refl rel) h2'⟩⟩
  · simp only [RVs] at rxs
    obtain ⟨v, _, rfl, h2, rfl⟩ := rxs
    split at h
    · rename_i ys e
      obtain ⟨a, vs, rfl, h4, h5⟩ := deref_ok rel h2 e
      cases h
      refine ⟨a, vs, rfl, Or.inl ⟨h5.lst, fun l hl => ?_⟩⟩
      obtain ⟨z1, z2⟩ := newF_ok rel hl (k := .tup) (o := .tup _) rfl h4
      exact k _ _ _ z1 z2
    · cases h
  · cases h
def int1F : CF := fun ps S => match ps with
  | [.int i] => some (.int i, S)
  | [.bl b] => some (.int (if b then 1 else 0), S)
  | _ => none
theorem cf_int1 : CallF X (fun xs H Q => (∃ i, xs = [.int i] ∧ Q (.int i) H) ∨ ∃ k, xs = [.bl k] ∧ Q (.int (if k then 1 else 0)) H) int1F := by
  intro H g S ps xs w S' Q rel rxs h k
  unfold int1F at h
  split at h
  · cases h
    simp only [RVs, RV] at rxs
    obtain ⟨_, _, rfl, rfl, rfl⟩ := rxs
    exact Or.inl ⟨_, rfl, k g H _ (Ext.refl rel) RV.int⟩
  · cases h
    simp only [RVs, RV] at rxs
    obtain ⟨_, _, rfl, rfl, rfl⟩ := rxs
    exact Or.inr ⟨_, rfl, k g H _ (Ext.refl rel) RV.int⟩
  · cases h
def absF : CF := fun ps S => match ps with
  | [.int i] => some (.int (if i < 0 then -i else i), S)
  | _ => none
theorem cf_abs : CallF X (fun xs H Q => ∃ i, xs = [.int i] ∧ Q (.int (if i < 0 then -i else i)) H) absF := by
  intro H g S ps xs w S' Q rel rxs h k
  unfold absF at h
  split at h
  · cases h
    simp only [RVs, RV] at rxs
    obtain ⟨_, _, rfl, rfl, rfl⟩ := rxs
    exact ⟨_, rfl, k g H _ (Ext.refl rel) RV.int⟩
  · cases h
def ii2F (f : Int → Int → Int) : CF := fun ps S => match ps with
  | [.int i, .int j] => some (.int (f i j), S)
  | _ => none
theorem cf_ii2 {f : Int → Int → Int} : CallF X (fun xs H Q => ∃ i j, xs = [.int i, .int j] ∧ Q (.int (f i j)) H) (ii2F f) := by
  intro H g S ps xs w S' Q rel rxs h k
  unfold ii2F at h
  split at h
  · cases h
    simp only [RVs, RV] at rxs
    obtain ⟨_, _, rfl, rfl, _, _, rfl, rfl, rfl⟩ := rxs
    exact ⟨_, _, rfl, k g H _ (Ext.refl rel) RV.int⟩
  · cases h
def divmodF : CF := fun ps S => match ps with
  | [.int i, .int j] => if CDiv i j then some (.con .own .tup [.int (i / j), .int (i % j)], S) else none
  | _ => none
theorem cf_divmod : CallF X (fun xs H Q => ∃ i j, xs = [.int i, .int j] ∧ CDiv i j ∧ ∀ p, H p = none → Q (.ref p) (upd H p (.tup [.int (i / j), .int (i % j)]))) divmodF := by
  intro H g S ps xs w S' Q rel rxs h k
  unfold divmodF at h
  split at h
  · split at h
    · cases h
      simp only [RVs, RV] at rxs
      obtain ⟨_, _, rfl, rfl, _, _, rfl, rfl, rfl⟩ := rxs
      refine ⟨_, _, rfl, by assumption, fun p hp => ?_⟩
      obtain ⟨z1, z2⟩ := newF_ok rel hp (k := .tup) (o := .tup _) rfl (RVs.mk_ints [_, _])
      exact k _ _ _ z1 z2
    · cases h
  · cases h
/-- all, any of a list of bools -/
def blsOf : List PV → Option (List Bool)
  | [] => some []
  | .bl b :: r => (blsOf r).map (b :: ·)
  | _ => none
theorem blsOf_rv {Y : Kx} {L : Nat} : ∀ {xs : List PV} {vs : List V} {bs : List Bool}, RVs Y H g L xs vs → blsOf xs = some bs → vs = bs.map V.bl
  | [], _, _, h, e => by simp only [RVs] at h; cases e; exact h
  | p :: r, vs, bs, h, e => by
    cases p <;> try (cases e; done)
    simp only [blsOf, Option.map_eq_some_iff] at e
    obtain ⟨cs, e1, rfl⟩ := e
    simp only [RVs, RV] at h
    obtain ⟨v, t, rfl, rfl, h3⟩ := h
    rw [blsOf_rv h3 e1] <;> rfl
def bsF (f : List Bool → Bool) : CF := fun ps S => match ps with
  | [p] => match deref S p with
    | some (.lst, xs) => (blsOf xs).map fun bs => (.bl (f bs), S)
    | _ => none
  | _ => none
theorem cf_bs {f : List Bool → Bool} : CallF X (fun vs H Q => ∃ (a : Addr) (bs : List Bool), vs = [V.ref a] ∧ SqL X.K H a (bs.map V.bl) ∧ Q (.bl (f bs)) H) (bsF f) := by
  intro H g S ps xs w S' Q rel rxs h k
  unfold bsF at h
  split at h
  · simp only [RVs] at rxs
    obtain ⟨v, _, rfl, h2, rfl⟩ := rxs
    split at h
    · rename_i ys e
      obtain ⟨a, vs, rfl, h4, h5⟩ := deref_ok rel h2 e
      simp only [Option.map_eq_some_iff, Prod.mk.injEq] at h
      obtain ⟨bs, e1, rfl, rfl⟩ := h
      refine ⟨a, bs, rfl, by rw [← blsOf_rv h4 e1]; exact h5.lst, k g H _ (Ext.refl rel) RV.bl⟩
    · cases h
  · cases h
/-- isinstance of a built-in type -/
def tyName (S : Sto) : PV → Option String
  | .non => some "NoneType"
  | .bl _ => some "bool"
  | .int _ => some "int"
  | .str _ => some "str"
  | p => match deref S p with
    | some (.lst, _) => some "list"
    | some (.tup, _) => some "tuple"
    | _ => none
def isiB (a b : String) : Bool := a == b || (a == "bool" && b == "int")
def isiF : CF := fun ps S => match ps with
  | [p, .ty n] => match tyName S p with
    | some t => if kitB t n = some (isiB t n) then some (.bl (isiB t n), S) else none
    | none => none
  | _ => none
theorem tyName_ok {Y : Kx} {p : PV} {x : V} {t : String} (rel : Rel Y H g S) (rv : RV Y H g S.length p x) (h : tyName S p = some t) : TyX Y.K H x (.type t) := by
  unfold tyName at h
  split at h
  · cases h; rw [rv.non_inv]; exact .base .non
  · cases h; rw [rv.bl_inv]; exact .base (.bl _)
  · cases h; rw [rv.int_inv]; exact .base (.int _)
  · cases h; rw [rv.str_inv]; exact .base (.str _)
  · split at h
    · rename_i ys e
      obtain ⟨a, vs, rfl, h4, h5⟩ := deref_ok rel rv e
      cases h
      rcases h5 with ⟨o, q1, q2⟩ | q
      · cases q1
        rcases q2 with q2 | ⟨ob, q2⟩
        · exact .base (.lst q2)
        · exact .base (.frz q2)
      · obtain ⟨o, its, n, z1, z2, _⟩ := q
        exact .kList z1 z2
    · rename_i ys e
      obtain ⟨a, vs, rfl, h4, h5⟩ := deref_ok rel rv e
      cases h
      rcases h5 with ⟨o, q1, q2⟩ | q
      · cases q1
        rcases q2 with q2 | ⟨ob, q2⟩
        · exact .base (.tup q2)
        · exact .fTuple q2
      · obtain ⟨o, its, n, z1, z2, _⟩ := q
        exact .kTuple z1 z2
    · cases h
theorem cf_isi : CallF X (rIsi X.K) isiF := by
  intro H g S ps xs w S' Q rel rxs h k
  unfold isiF at h
  split at h
  · rename_i p n
    split at h
    · rename_i t et
      split at h
      · rename_i hk
        cases h
        simp only [RVs, RV] at rxs
        obtain ⟨v, _, rfl, h2, _, _, rfl, rfl, rfl⟩ := rxs
        exact ⟨v, .ty n, .type t, .type n, _, rfl, .ty n, tyName_ok rel h2 et, kit_ty hk, k g H _ (Ext.refl rel) RV.bl⟩
      · cases h
    · cases h
  · cases h
/-- a built-in's name as a value -/
theorem E.ty {x : Str} {n : String} (hg : Gl X x) (hm : X.mg x = none) (hv : bootBuiltins x = some (.type n)) (hn : x ≠ "__name__" := by decide) (hd : (x == ("__debug__" : Str)) = false := by decide) : E X W (.Name x pos) (eC (.ty n)) :=
  E.const (pe_bltn (v := .ty n) hg hm hv rfl hn hd) fun H g L => by simp only [RV]
/-- sep.join(list of texts) -/
def strsOf : List PV → Option (List Str)
  | [] => some []
  | .str b :: r => (strsOf r).map (b :: ·)
  | _ => none
theorem strsOf_rv {Y : Kx} {L : Nat} : ∀ {xs : List PV} {vs : List V} {bs : List Str}, RVs Y H g L xs vs → strsOf xs = some bs → vs = bs.map V.str
  | [], _, _, h, e => by simp only [RVs] at h; cases e; exact h
  | p :: r, vs, bs, h, e => by
    cases p <;> try (cases e; done)
    simp only [strsOf, Option.map_eq_some_iff] at e
    obtain ⟨cs, e1, rfl⟩ := e
    simp only [RVs, RV] at h
    obtain ⟨v, t, rfl, rfl, h3⟩ := h
    rw [strsOf_rv h3 e1] <;> rfl
def joinF : MF := fun p ps S => match p, ps with
  | .str a, [q] => match deref S q with
    | some (.lst, xs) => match strsOf xs with
      | some ys => if (ys.map (·.length)).sum + ys.length * a.length ≤ 16777216 then some (.str (Txt.join a ys), S) else none
      | none => none
    | _ => none
  | _, _ => none
theorem mtf_join : MtF X (fun x xs H Q => ∃ a p, ∃ ys : List Str, x = .str a ∧ xs = [.ref p] ∧ (SqL X.K H p (ys.map V.str) ∨ SqT X.K H p (ys.map V.str)) ∧
    (ys.map (·.length)).sum + ys.length * a.length ≤ 16777216 ∧ Q (.str (Txt.join a ys)) H) joinF := by
  intro H g S p ps x xs w S' Q rel rx rxs h k
  unfold joinF at h
  split at h
  · split at h
    · rename_i zs e
      split at h
      · rename_i ys ey
        split at h
        · rename_i hl
          cases h
          simp only [RVs] at rxs
          obtain ⟨v, _, rfl, h2, rfl⟩ := rxs
          obtain ⟨a, vs, rfl, h4, h5⟩ := deref_ok rel h2 e
          exact ⟨_, a, ys, rx.str_inv, rfl, Or.inl (by rw [← strsOf_rv h4 ey]; exact h5.lst), hl, k g H _ (Ext.refl rel) RV.str⟩
        · cases h
      · cases h
    · cases h
  · cases h
end
end Pv

/-! Pv9: within a def's body; the end. -/
namespace Pv
open PySem PySem.Spec PyProof.Rows L2
section
variable {X : Cx} {W : WX} {N : List Str} {sc : Scope} {k : Nat} {pos pos' : Pos} {e : Expr} {te : EF}
/-- a name of the def in slot i, to be read -/
def slC (N : List Str) (sc : Scope) (i : Nat) (x : Str) : Bool := decide (N[i]? = some x) && (match sc.names.lookup x with
  | some .local => true
  | some .cell => true
  | some .free => true
  | _ => false) && !(x == ("__debug__" : Str)) && !(x == ("__classdict__" : Str))
/-- .. to be stored -/
def slT (N : List Str) (sc : Scope) (i : Nat) (x : Str) : Bool := decide (N[i]? = some x) && (match sc.names.lookup x with
  | some .local => true
  | some .cell => true
  | _ => false)
theorem slC_ok {i : Nat} {x : Str} (h : slC N sc i x = true) : N[i]? = some x ∧ Vis sc x ∧ (x == ("__debug__" : Str)) = false ∧ (x == ("__classdict__" : Str)) = false := by
  unfold slC at h
  simp only [Bool.and_eq_true, decide_eq_true_eq, Bool.not_eq_true'] at h
  obtain ⟨⟨⟨h1, h2⟩, h3⟩, h4⟩ := h
  refine ⟨h1, ?_, h3, h4⟩
  split at h2
  · exact Or.inl (by assumption)
  · exact Or.inr (Or.inl (by assumption))
  · exact Or.inr (Or.inr (by assumption))
  · cases h2
theorem slT_ok {i : Nat} {x : Str} (h : slT N sc i x = true) : N[i]? = some x ∧ Loc sc x := by
  unfold slT at h
  simp only [Bool.and_eq_true, decide_eq_true_eq] at h
  obtain ⟨h1, h2⟩ := h
  refine ⟨h1, ?_⟩
  split at h2
  · exact Or.inl (by assumption)
  · exact Or.inr (by assumption)
  · cases h2
theorem E.vr (hN : X.N = N) (hs : X.env.scope = sc) (i : Nat) (x : Str) (h : slC N sc i x = true) : E X W (.Name x pos) (eV i) := by
  subst hN hs
  obtain ⟨h1, h2, h3, h4⟩ := slC_ok h
  exact E.var (pe_var h1 h2 h3 h4)
theorem Body.v (b : Body X W N sc k) (i : Nat) (x : Str) (h : slC N sc i x = true) : E X W (.Name x pos) (eV i) := E.vr b.hN b.sc i x h
theorem Body.pg (b : Body X W N sc k) (nd : N.Nodup) (i : Nat) (x : Str) (h : slT N sc i x = true) : PG X (.Name x pos) (gName i) := by
  have b1 := b.hN
  have b2 := b.sc
  subst b1 b2
  obtain ⟨h1, h2⟩ := slT_ok h
  exact pg_name nd h1 h2 (.inl (b.fn x))
theorem Body.t (b : Body X W N sc k) (nd : N.Nodup) (i : Nat) (x : Str) (h : slT N sc i x = true) : Tg X W (.Name x pos) (gN i) := Tg.name (b.pg nd i x h)
theorem Body.set (b : Body X W N sc k) (nd : N.Nodup) (i : Nat) (x : Str) (h : slT N sc i x = true) (he : E X W e te) (hs : swapsWith e (some (.Name x pos')) pos.line X.env = pure false := by rfl) : St X W (.Assign [.Name x pos'] e pos) (sSet i te) := by
  have b1 := b.hN
  have b2 := b.sc
  subst b1 b2
  obtain ⟨h1, h2⟩ := slT_ok h
  exact St.set (fun he => ps_set nd h1 h2 he hs (.inl (b.fn x))) he
theorem Body.aug (b : Body X W N sc k) (nd : N.Nodup) (i : Nat) (x : Str) (h : slT N sc i x = true) {op : Operator} {r : R2} {f : OF} (ho : PIp X op r) (hf : OpF X r f) (he : E X W e te) : St X W (.AugAssign (.Name x pos') op e pos) (sAug i f te) := by
  have b1 := b.hN
  have b2 := b.sc
  subst b1 b2
  obtain ⟨h1, h2⟩ := slT_ok h
  exact ps_imp (ps_aug nd h1 h2 he ho (.inl (b.fn x))) fun D σ H q => aug_imp hf q
theorem gl_of (hs : X.env.scope = sc) (x : Str) (h : sc.names.lookup x = some .globalImplicit) : Gl X x := by subst hs; exact h
theorem Body.gl (b : Body X W N sc k) (x : Str) (h : sc.names.lookup x = some .globalImplicit) : Gl X x := gl_of b.sc x h
theorem Body.hu (b : Body X W N sc k) : X.A.units + 64 < cLine := b.room.units
/-! within a comprehension's block -/
theorem relabel_eq (scope : Scope) (env : Env) : relabel scope env = relS scope env.scope := rfl
theorem blk_sc {s : Shared} {H : Hp} {scope : Scope} {C : Addr} {cl : List (Str × Addr)} {fp : List Addr} (hs : X.env.scope = sc) : (X.blk s H scope (compEnvC scope cl C X.env) fp).env.scope = relS scope sc := by subst hs; rfl
theorem blk_pg {s : Shared} {H : Hp} {scope : Scope} {C : Addr} {cl : List (Str × Addr)} {fp : List Addr} (hN : X.N = N) (hs : X.env.scope = sc) (nd : N.Nodup) (i : Nat) (x : Str)
    (h : (decide (N[i]? = some x) && (decide ((relS scope sc).names.lookup x = some .local) || (decide ((relS scope sc).names.lookup x = some .cell) && (scope.names.lookup x == some .cell)))) = true) : PG (X.blk s H scope (compEnvC scope cl C X.env) fp) (.Name x pos) (gName i) := by
  subst hN hs
  simp only [Bool.and_eq_true, Bool.or_eq_true, decide_eq_true_eq] at h
  obtain ⟨h1, h2⟩ := h
  rcases h2 with h2 | ⟨h2, h3⟩
  · exact pg_name nd h1 (Or.inl h2) (Or.inr h2)
  · exact pg_name nd h1 (Or.inr h2) (Or.inl h3)
theorem Body.bv (b : Body X W N sc k) {W' : WX} {s : Shared} {H : Hp} {scope : Scope} {C : Addr} {cl : List (Str × Addr)} {fp : List Addr} (i : Nat) (x : Str) (h : slC N (relS scope sc) i x = true) : E (X.blk s H scope (compEnvC scope cl C X.env) fp) W' (.Name x pos) (eV i) := E.vr (X := X.blk s H scope (compEnvC scope cl C X.env) fp) (N := N) (sc := relS scope sc) b.hN (blk_sc b.sc) i x h
theorem Body.bgl (b : Body X W N sc k) {s : Shared} {H : Hp} {scope : Scope} {C : Addr} {cl : List (Str × Addr)} {fp : List Addr} (x : Str) (h : (relS scope sc).names.lookup x = some .globalImplicit) : Gl (X.blk s H scope (compEnvC scope cl C X.env) fp) x := gl_of (X := X.blk s H scope (compEnvC scope cl C X.env) fp) (sc := relS scope sc) (blk_sc b.sc) x h
theorem pgs_names {X' : Cx} {es : List Expr} : PGs X' [] (gNamesV []) := pgs_nil
theorem Body.blk (b : Body X W N sc k) {scope : Scope} {own : List (Str × Nat)} (h : blkC N sc scope own = true) : BlkOk X.N X.env.scope scope own := by
  have b1 := b.hN
  have b2 := b.sc
  subst b1 b2
  exact blkOk_by h
theorem Body.setLc (mu : Bool) (b : Body X W N sc k) (nd : N.Nodup) (i : Nat) (y : Str) {py spos : Pos} {elt tg iter : Expr} {ifs : List Expr} {scope : Scope} {own : List (Str × Nat)} {it : IF} {gV : TG} {gt : GF} {tt : BF} (hy : (decide (N[i]? = some y) && decide (sc.names.lookup y = some .local) && decide (sc.kind = .function) && (py.line == pos.line) && !(scope.names.any fun (n, k) => n == y && (k == .local || k == .cell))) = true)
    (hi : I X W tg iter it) (ok : blkC N sc scope own = true) (cg : CG X gV gt (own.map (·.2)))
    (hg : ∀ (s : Shared) (H : Hp) (C : Addr) (cl : List (Str × Addr)) (fp : List Addr), PG (X.blk s H scope (compEnvC scope cl C X.env) fp) tg gV)
    (ht : ∀ (s : Shared) (H : Hp) (C : Addr) (cl : List (Str × Addr)) (fp : List Addr), Ts (X.blk s H scope (compEnvC scope cl C X.env) fp) W0 ifs tt)
    (he : ∀ (s : Shared) (H : Hp) (C : Addr) (cl : List (Str × Addr)) (fp : List Addr), E (X.blk s H scope (compEnvC scope cl C X.env) fp) W0 elt te) (hs : ∀ x, foldedSetIterable iter X.env x = pure x := by intro _; rfl) :
    St X W (.Assign [.Name y py] (.ListComp elt [⟨tg, iter, ifs, 0⟩] scope pos) spos) (sSet i (eLc mu it gt tt te (own.map (·.2)))) := by
  have bk := b.blk ok
  have b1 := b.hN
  have b2 := b.sc
  subst b1 b2
  simp only [Bool.and_eq_true, decide_eq_true_eq, Bool.not_eq_true'] at hy
  obtain ⟨⟨⟨⟨h1, h2⟩, h3⟩, h4⟩, h5⟩ := hy
  exact St.setLc mu b.calm nd h1 h2 (sw_true h3 h2 h4 h5) hi bk cg hg ht he hs
end
/-- a module's name that holds a number, a text, a tuple of the top -/
theorem E.gint {X : Cx} {W : WX} {x : Str} {i : Int} {pos : Pos} (hg : Gl X x) (hm : ∃ t, X.mg x = some (.int i t)) (hd : (x == ("__debug__" : Str)) = false := by decide) : E X W (.Name x pos) (eC (.int i)) := by
  obtain ⟨t, hm⟩ := hm
  exact E.const (pe_glob (v := .int i) hg hm ⟨t, rfl⟩ hd) fun H g L => RV.int
theorem E.gstr {X : Cx} {W : WX} {x : Str} {i : Str} {pos : Pos} (hg : Gl X x) (hm : ∃ t, X.mg x = some (.str i t)) (hd : (x == ("__debug__" : Str)) = false := by decide) : E X W (.Name x pos) (eC (.str i)) := by
  obtain ⟨t, hm⟩ := hm
  exact E.const (pe_glob (v := .str i) hg hm ⟨t, rfl⟩ hd) fun H g L => RV.str
/-- a tuple of texts that the top has written -/
def WTup (K : PySem.W.Frag) (mg : Str → Option Value) (x : Str) (ss : List Str) : Prop := ∃ a, mg x = some (.ref a) ∧ Wr K a .tup (ss.map V.str)
theorem E.gtup {X : Cx} {W : WX} {x : Str} {ss : List Str} {pos : Pos} (hg : Gl X x) (hm : WTup X.K X.mg x ss) (hd : (x == ("__debug__" : Str)) = false := by decide) : E X W (.Name x pos) (eC (.con .out .tup (ss.map PV.str))) := by
  obtain ⟨a, h1, h2⟩ := hm
  exact E.const (pe_glob (v := .ref a) hg h1 rfl hd) fun H g L => by
    simp only [RV]
    exact ⟨a, _, rfl, Or.inr h2, RVs.mk_strs _⟩
theorem wtup_of {K : PySem.W.Frag} {h : Heap} {mg : Str → Option Value} {x : Str} {ss : List Str} (X : K.In h) (G : h.Ns mainGlobals mg) (c : (He.Fa.glo x).ok K = true) (d : He.tupB K x (ss.map fun s => .str s) = true) : WTup K mg x ss := by
  refine ⟨_, He.glo_ok X G c, ?_⟩
  have q := He.tupB_ok d (fun _ => none)
  rcases q with (q | ⟨o, q⟩) | q
  · cases q
  · cases q
  · obtain ⟨o, its, n, h1, h2, h3, h4, h5⟩ := q
    refine ⟨o, its, n, h1, h2, h3, h4, ?_⟩
    have e : (ss.map fun s => He.Dv.str s).map (He.Dv.v K) = ss.map V.str := by
      rw [List.map_map]; rfl
    rw [e] at h5
    exact h5
end Pv

/-! Pv10: in; defs by their place; the end of a law. -/
namespace Pv
open PySem PySem.Spec PyProof.Rows L2
section
variable {X : Cx} {W : WX} {N : List Str} {sc : Scope} {k : Nat}
def rInP (K : PySem.W.Frag) : R2 := fun x y H Q => ∃ d ds, Dp K H x d ∧ (Dp K H y (.list ds) ∨ Dp K H y (.tuple ds)) ∧ Pl d ∧ PyData.plainAll ds = true ∧ Q (.bl (ds.any fun z => PyData.eqv z d)) H
def rNinP (K : PySem.W.Frag) : R2 := fun x y H Q => ∃ d ds, Dp K H x d ∧ (Dp K H y (.list ds) ∨ Dp K H y (.tuple ds)) ∧ Pl d ∧ PyData.plainAll ds = true ∧ Q (.bl (!ds.any fun z => PyData.eqv z d)) H
theorem op_inP (hu : X.A.units + 65 < cLine) : OpR X (compareOp .In) (rInP X.K) := by
  intro pins s σ H x y v u Q I rx ry h
  obtain ⟨d, ds, hd, he, sd, se, q⟩ := h
  obtain ⟨as, r1⟩ := Dp.reads I d x v hd rx
  have := sd.2
  rcases he with he | he
  · obtain ⟨bs, r2⟩ := Dp.reads I (.list ds) y u he ry
    exact SeqAt.in_list_data r2 r1 se sd.1 (by omega) ⟨.bl _, H, I, rfl, q⟩
  · obtain ⟨bs, r2⟩ := Dp.reads I (.tuple ds) y u he ry
    exact SeqAt.in_tuple_data r2 r1 se sd.1 (by omega) ⟨.bl _, H, I, rfl, q⟩
theorem op_ninP (hu : X.A.units + 65 < cLine) : OpR X (compareOp .NotIn) (rNinP X.K) := by
  intro pins s σ H x y v u Q I rx ry h
  obtain ⟨d, ds, hd, he, sd, se, q⟩ := h
  obtain ⟨as, r1⟩ := Dp.reads I d x v hd rx
  have := sd.2
  rcases he with he | he
  · obtain ⟨bs, r2⟩ := Dp.reads I (.list ds) y u he ry
    exact SeqAt.notIn_list_data r2 r1 se sd.1 (by omega) ⟨.bl _, H, I, rfl, q⟩
  · obtain ⟨bs, r2⟩ := Dp.reads I (.tuple ds) y u he ry
    exact SeqAt.notIn_tuple_data r2 r1 se sd.1 (by omega) ⟨.bl _, H, I, rfl, q⟩
abbrev rInA (K : PySem.W.Frag) : R2 := fun x y H Q => (∃ (c : Nat) (z : Str), x = .str ⟨#[c]⟩ ∧ y = .str z ∧ Q (.bl (decide (c ∈ z.cps.toList))) H) ∨ (rIn K false x y H Q ∨ rInP K x y H Q)
abbrev rNinA (K : PySem.W.Frag) : R2 := fun x y H Q => (∃ (c : Nat) (z : Str), x = .str ⟨#[c]⟩ ∧ y = .str z ∧ Q (.bl (!decide (c ∈ z.cps.toList))) H) ∨ (rIn K true x y H Q ∨ rNinP K x y H Q)
theorem or_in (hu : X.A.units + 65 < cLine) : OpR X (compareOp .In) (rInA X.K) := OpR.or op_in_sign (OpR.or op_in_seq (op_inP hu))
theorem or_nin (hu : X.A.units + 65 < cLine) : OpR X (compareOp .NotIn) (rNinA X.K) := OpR.or op_notIn_sign (OpR.or op_notIn_seq (op_ninP hu))
theorem opf_in : OpF X (rInA X.K) inF :=
  inB_ok (fb := fun b => b) (fun c z H Q q => Or.inl ⟨c, z, rfl, rfl, q⟩) (fun x p ys H Q h1 h2 h3 q => Or.inr (Or.inl ⟨p, ys, rfl, h1, h2, h3, q⟩)) fun x y d ds H Q h1 h2 h3 h4 q => Or.inr (Or.inr ⟨d, ds, h1, h2, h3, h4, q⟩)
theorem opf_nin : OpF X (rNinA X.K) ninF :=
  inB_ok (fb := fun b => !b) (fun c z H Q q => Or.inl ⟨c, z, rfl, rfl, q⟩) (fun x p ys H Q h1 h2 h3 q => Or.inr (Or.inl ⟨p, ys, rfl, h1, h2, h3, q⟩)) fun x y d ds H Q h1 h2 h3 h4 q => Or.inr (Or.inr ⟨d, ds, h1, h2, h3, h4, q⟩)
theorem Body.hu65 (b : Body X W N sc k) : X.A.units + 65 < cLine := by have := b.room.un; omega
/-- text.index(sign): the first place -/
def sindexF : MF := fun p ps S => match p, ps with
  | .str a, [.str b] => match Builtin.Str.occurrences a b 0 a.length 1 with
    | i :: _ => some (.int (i : Nat), S)
    | [] => none
  | _, _ => none
theorem mtf_sindex : MtF X (fun x xs H Q => ∃ a b i rest, x = .str a ∧ xs = [.str b] ∧ Builtin.Str.occurrences a b 0 a.length 1 = i :: rest ∧ Q (.int (i : Nat)) H) sindexF := by
  intro H g S p ps x xs w S' Q rel rx rxs h k
  unfold sindexF at h
  split at h
  · split at h
    · rename_i i r e
      cases h
      simp only [RVs, RV] at rxs
      obtain ⟨_, _, rfl, rfl, rfl⟩ := rxs
      exact ⟨_, _, i, r, rx.str_inv, rfl, e, k g H _ (Ext.refl rel) RV.int⟩
    · cases h
  · cases h
theorem pip_add : PIp X .Add (rI0 fun i j => .int (i + j)) := fun pins s σ H x y v u Q I rx ry ⟨i, j, e1, e2, q⟩ => ip_add pins s σ H x y v u Q I rx ry ⟨i, j, e1, e2, q⟩
theorem pip_sub : PIp X .Sub (rI0 fun i j => .int (i - j)) := fun pins s σ H x y v u Q I rx ry ⟨i, j, e1, e2, q⟩ => ip_sub pins s σ H x y v u Q I rx ry ⟨i, j, e1, e2, q⟩
theorem opf_add0 : OpF X (rI0 fun i j => .int (i + j)) (iOp0 fun i j => .int (i + j)) := opf_I0
end
/-- a def of the text, where it stands, and how its arguments bind -/
def DefAt (K : PySem.W.Frag) (mg : Str → Option Value) (x : Str) (st : Stmt) (ps : List Str) : Prop :=
  ∃ (f : Addr) (fd : FuncData), FunD K x x (defArgs st) (defBody st) (defScope st) [] [] f fd ∧ mg x = some (.ref f) ∧ Binds K fd ps []
section
variable {P : Program} {w : World} {K : PySem.W.Frag} {mg : Str → Option Value} {base : Heap} {x : Str} {st : Stmt} {ps : List Str} {k : Nat}
theorem DefAt.badP (F : DefAt K mg x st ps) (f : List PV → RP) (h : ∀ a, f a = .bad) : Cal P w K mg base k x (spP ⟨K, mg⟩ f) := by
  obtain ⟨a, fd, F, hm, hb⟩ := F
  have no : ∀ vs H Q E, ¬ spP ⟨K, mg⟩ f vs H Q E := fun vs H Q E ⟨g, qs, _, _, h3⟩ => by rw [h] at h3; exact h3
  exact ⟨a, fd, ps, ⟨fun vs H Q E q => (no vs H Q E q).elim, fun A outer s H args us vs Q E _ _ _ _ q => (no vs H Q E q).elim⟩, hm, F.kp, hb⟩
theorem DefAt.badW (F : DefAt K mg x st ps) (f : List PV → Sto → R PV) (h : ∀ a S, f a S = .bad) : Cal P w K mg base k x (spW ⟨K, mg⟩ f) := by
  obtain ⟨a, fd, F, hm, hb⟩ := F
  have no : ∀ vs H Q E, ¬ spW ⟨K, mg⟩ f vs H Q E := fun vs H Q E ⟨g, S, qs, _, _, h3⟩ => by rw [h] at h3; exact h3
  exact ⟨a, fd, ps, ⟨fun vs H Q E q => (no vs H Q E q).elim, fun A outer s H args us vs Q E _ _ _ _ q => (no vs H Q E q).elim⟩, hm, F.kp, hb⟩
end
/-- the script as data -/
def scr (ns : List Int) : PV := .con .out .lst (ns.map PV.int)
/-- the end of a law row: the law's def, as a function of data, gives True -/
theorem law_end {l : PySem.W.OpenLaw} {n k : Nat} {q : Program} {loose : List Str} {XP : (Str → Option Value) → Heap → Prop} {YP : World → Heap → Prop} {d : DefRec} {x : Str}
    (hn : l.most = some n) (hn2 : n ≤ sizeLine) (hdf : d.params.defaults = []) (hr : Room k callerA)
    (F : ∀ (w : World) (mg : Str → Option Value) (fa : Addr) (h : Heap), YP w h → h.Ns mainGlobals mg → mg d.name = some (.ref fa) →
      ∃ (K : PySem.W.Frag) (f : List PV → RP) (fd : FuncData), K.In h ∧ (∀ (s : Shared) (u : Value), BindsTo s fd ⟨[u], []⟩ [(x, u)]) ∧ (∀ ns : List Int, ns.length ≤ n → f [scr ns] = .ok (.bl true)) ∧
        ∀ base : Heap, K.In base → base.Ns mainGlobals mg → FnOk l.prog w K mg base (L2.CX l.prog w) k fa fd [x] (spP ⟨K, mg⟩ f)) :
    PySem.W.WalkO q loose XP YP l.row.toRowW d [] (fun f vs => PySem.call f vs) := by
  refine Att.attach_call hn hdf fun w s₀ s₁ mg mb fa o pm cd doc a vs ns G Y ho hd hcd hmg hobj hints hlen hg => ?_
  obtain ⟨K, f, fd, KX, hb, hlaw, hF⟩ := F w mg fa _ Y G.T.g hmg
  refine law_call KX G.T.g G.T.b G.T.builtins G.T.nolimit hg hobj hints (Nat.le_trans hlen hn2) hr hF hb (fun H hO hS => ?_) fun H e s' hc => ?_
  · refine ⟨⟨fun _ => False, fun _ => False, fun _ => 0⟩, [scr ns], ?_, fun a z => ?_, ?_⟩
    · simp only [RVs, RV, scr]
      refine ⟨_, _, rfl, ⟨a, ns.map V.int, rfl, ?_, RVs.mk_ints ns⟩, rfl⟩
      rcases hS with (hS | ⟨ob, hS⟩) | hS
      · rcases hO a with e | ⟨o, xs, e⟩ <;> (rw [hS] at e; cases e)
      · exact Or.inl ⟨ob, _, rfl, hS⟩
      · exact Or.inr hS
    · rcases z with z | z <;> exact z.elim
    · rw [hlaw ns hlen]
      intro H' F' x _ rv
      simp only [RV] at rv
      exact rv
  · obtain ⟨_, _, _, _, _, _, _, _, _, _, _, _, z⟩ := hc
    exact z
end Pv

/-! Pv11: how the mirrors are reckoned: rules for simp, from the inside out. -/
namespace Pv
open PySem PySem.Spec PyProof.Rows L2
section
variable {Γ Γ' : Gam} {S S' : Sto} {a b c e : EF} {f f' : OF} {x y z : PV} {p q : PV} {i n m : Nat} {k : Bool} {t u : SF}
@[simp] theorem rbind_ok {α β : Type} {v : α} {k : α → Sto → R β} : (R.ok v S).bind k = k v S := (rfl)
@[simp] theorem rof_some {α : Type} {v : α} : R.of (some (v, S)) = .ok v S := (rfl)
@[simp] theorem rst_ok {α : Type} {v : α} {k : α → Sto → RS} : (R.ok v S).st Γ k = k v S := (rfl)
@[simp] theorem rbind_ex {α β : Type} {c : Str} {fs : List (Str × PV)} {k : α → Sto → R β} : (R.ex c fs S).bind k = .ex c fs S := (rfl)
@[simp] theorem rst_ex {α : Type} {c : Str} {fs : List (Str × PV)} {k : α → Sto → RS} : (R.ex (α := α) c fs S).st Γ k = .ex c fs Γ S := (rfl)
/-! names, constants -/
@[simp] theorem eC_eq : eC p Γ S = .ok p S := (rfl)
theorem eV_eq : eV i Γ S = match Γ[i]? with
  | some (some v) => .ok v S
  | _ => .bad := rfl
@[simp] theorem eV_0 {o : Gam} : eV 0 (some p :: o) S = .ok p S := (rfl)
@[simp] theorem eV_s {o : Gam} {z : Option PV} : eV (n + 1) (z :: o) S = eV n o S := (rfl)
@[simp] theorem eV_1 {o : Gam} {z : Option PV} : eV 1 (z :: o) S = eV 0 o S := (rfl)
/-! operators -/
def opK (f : OF) (b : EF) (Γ : Gam) (r : R PV) : R PV := r.bind fun x S1 => (b Γ S1).bind fun y S2 => R.of (f x y S2)
def opK2 (f : OF) (x : PV) (r : R PV) : R PV := r.bind fun y S2 => R.of (f x y S2)
@[simp] theorem eOp_eq : eOp f a b Γ S = opK f b Γ (a Γ S) := (rfl)
@[simp] theorem opK_ok : opK f b Γ (.ok x S) = opK2 f x (b Γ S) := (rfl)
@[simp] theorem opK2_ok : opK2 f x (.ok y S) = R.of (f x y S) := (rfl)
def chK (f f' : OF) (tb tc : EF) (Γ : Gam) (r : R PV) : R PV := r.bind fun x S1 => (tb Γ S1).bind fun y S2 => (R.of (f x y S2)).bind fun z S3 => match z with
  | .bl true => (tc Γ S3).bind fun w S4 => R.of (f' y w S4)
  | .bl false => .ok (.bl false) S3
  | _ => .bad
def chK2 (f f' : OF) (x : PV) (tc : EF) (Γ : Gam) (r : R PV) : R PV := r.bind fun y S2 => (R.of (f x y S2)).bind fun z S3 => match z with
  | .bl true => (tc Γ S3).bind fun w S4 => R.of (f' y w S4)
  | .bl false => .ok (.bl false) S3
  | _ => .bad
def chK3 (f' : OF) (y : PV) (tc : EF) (Γ : Gam) (r : R PV) : R PV := r.bind fun z S3 => match z with
  | .bl true => (tc Γ S3).bind fun w S4 => R.of (f' y w S4)
  | .bl false => .ok (.bl false) S3
  | _ => .bad
@[simp] theorem eChain_eq : eChain f f' a b c Γ S = chK f f' b c Γ (a Γ S) := (rfl)
@[simp] theorem chK_ok : chK f f' b c Γ (.ok x S) = chK2 f f' x c Γ (b Γ S) := (rfl)
@[simp] theorem chK2_ok : chK2 f f' x c Γ (.ok y S) = chK3 f' y c Γ (R.of (f x y S)) := (rfl)
@[simp] theorem chK3_t : chK3 f' y c Γ (.ok (.bl true) S) = opK2 f' y (c Γ S) := (rfl)
@[simp] theorem chK3_f : chK3 f' y c Γ (.ok (.bl false) S) = .ok (.bl false) S := (rfl)
theorem chK3_k : chK3 f' y c Γ (.ok (.bl k) S) = if k = true then opK2 f' y (c Γ S) else .ok (.bl false) S := by cases k <;> rfl
def uK (f : PV → PV) (r : R PV) : R PV := r.bind fun p S1 => .ok (f p) S1
@[simp] theorem eU_eq {f : PV → PV} : eU f a Γ S = uK f (a Γ S) := (rfl)
@[simp] theorem uK_ok {f : PV → PV} : uK f (.ok p S) = .ok (f p) S := (rfl)
def negK (r : R PV) : R PV := r.bind fun v S1 => match v with
  | .int i => .ok (.int (-i)) S1
  | _ => .bad
@[simp] theorem eNeg_eq : eNeg a Γ S = negK (a Γ S) := (rfl)
@[simp] theorem negK_ok {i : Int} : negK (.ok (.int i) S) = .ok (.int (-i)) S := (rfl)
/-! tests -/
def beK (r : R PV) : R Bool := r.bind fun v S1 => match v with
  | .bl b => .ok b S1
  | _ => .bad
@[simp] theorem bE_eq : bE a Γ S = beK (a Γ S) := (rfl)
@[simp] theorem beK_ok : beK (.ok (.bl k) S) = .ok k S := (rfl)
def btK (r : R PV) : R Bool := r.bind fun v S1 => match truB S1 v with
  | some b => .ok b S1
  | none => .bad
def btK2 (S : Sto) : Option Bool → R Bool
  | some b => .ok b S
  | none => .bad
@[simp] theorem bT_eq : bT a Γ S = btK (a Γ S) := (rfl)
@[simp] theorem btK_ok : btK (.ok p S) = btK2 S (truB S p) := by unfold btK btK2; simp only [rbind_ok]
@[simp] theorem btK2_some : btK2 S (some k) = .ok k S := (rfl)
@[simp] theorem truB_bl : truB S (.bl k) = some k := (rfl)
@[simp] theorem truB_non : truB S .non = some false := (rfl)
@[simp] theorem truB_int {i : Int} : truB S (.int i) = some (decide (i ≠ 0)) := (rfl)
variable {s r : BF}
def andK (t : BF) (Γ : Gam) (r : R Bool) : R Bool := r.bind fun k S1 => if k = true then t Γ S1 else .ok false S1
def orK (t : BF) (Γ : Gam) (r : R Bool) : R Bool := r.bind fun k S1 => if k = true then .ok true S1 else t Γ S1
def notK (r : R Bool) : R Bool := r.bind fun k S1 => .ok (!k) S1
@[simp] theorem bAnd_eq : bAnd s r Γ S = andK r Γ (s Γ S) := (rfl)
@[simp] theorem bOr_eq : bOr s r Γ S = orK r Γ (s Γ S) := (rfl)
@[simp] theorem bNot_eq : bNot s Γ S = notK (s Γ S) := (rfl)
@[simp] theorem andK_t : andK r Γ (.ok true S) = r Γ S := (rfl)
@[simp] theorem andK_f : andK r Γ (.ok false S) = .ok false S := (rfl)
@[simp] theorem orK_t : orK r Γ (.ok true S) = .ok true S := (rfl)
@[simp] theorem orK_f : orK r Γ (.ok false S) = r Γ S := (rfl)
theorem andK_k : andK r Γ (.ok k S) = if k = true then r Γ S else .ok false S := rfl
theorem orK_k : orK r Γ (.ok k S) = if k = true then .ok true S else r Γ S := rfl
@[simp] theorem notK_ok : notK (.ok k S) = .ok (!k) S := (rfl)
def eandK (t : EF) (Γ : Gam) (r : R PV) : R PV := r.bind fun v S1 => match v with
  | .bl true => t Γ S1
  | .bl false => .ok (.bl false) S1
  | _ => .bad
def eorK (t : EF) (Γ : Gam) (r : R PV) : R PV := r.bind fun v S1 => match v with
  | .bl true => .ok (.bl true) S1
  | .bl false => t Γ S1
  | _ => .bad
def enotK (r : R PV) : R PV := r.bind fun v S1 => match v with
  | .bl k => .ok (.bl (!k)) S1
  | _ => .bad
@[simp] theorem eAnd_eq : eAnd a b Γ S = eandK b Γ (a Γ S) := (rfl)
@[simp] theorem eOr_eq : eOr a b Γ S = eorK b Γ (a Γ S) := (rfl)
@[simp] theorem eNot_eq : eNot a Γ S = enotK (a Γ S) := (rfl)
@[simp] theorem eandK_t : eandK b Γ (.ok (.bl true) S) = b Γ S := (rfl)
@[simp] theorem eandK_f : eandK b Γ (.ok (.bl false) S) = .ok (.bl false) S := (rfl)
@[simp] theorem eorK_t : eorK b Γ (.ok (.bl true) S) = .ok (.bl true) S := (rfl)
@[simp] theorem eorK_f : eorK b Γ (.ok (.bl false) S) = b Γ S := (rfl)
theorem eandK_k : eandK b Γ (.ok (.bl k) S) = if k = true then b Γ S else .ok (.bl false) S := by cases k <;> rfl
theorem eorK_k : eorK b Γ (.ok (.bl k) S) = if k = true then .ok (.bl true) S else b Γ S := by cases k <;> rfl
@[simp] theorem enotK_ok : enotK (.ok (.bl k) S) = .ok (.bl (!k)) S := (rfl)
def eifK (ta tb : EF) (Γ : Gam) (r : R Bool) : R PV := r.bind fun k S1 => if k = true then ta Γ S1 else tb Γ S1
@[simp] theorem eIf_eq : eIf s a b Γ S = eifK a b Γ (s Γ S) := (rfl)
@[simp] theorem eifK_ok : eifK a b Γ (.ok k S) = if k = true then a Γ S else b Γ S := (rfl)
/-! rows, displays, calls -/
variable {tr : AF} {ps : List PV}
def consK (r : AF) (Γ : Gam) (x : R PV) : R (List PV) := x.bind fun v S1 => (r Γ S1).bind fun vs S2 => .ok (v :: vs) S2
def consK2 (v : PV) (x : R (List PV)) : R (List PV) := x.bind fun vs S2 => .ok (v :: vs) S2
@[simp] theorem aNil_eq : aNil Γ S = .ok [] S := (rfl)
@[simp] theorem aCons_eq : aCons a tr Γ S = consK tr Γ (a Γ S) := (rfl)
@[simp] theorem consK_ok : consK tr Γ (.ok p S) = consK2 p (tr Γ S) := (rfl)
@[simp] theorem consK2_ok : consK2 p (.ok ps S) = .ok (p :: ps) S := (rfl)
def tupK (x : R (List PV)) : R PV := x.bind fun vs S1 => if vs.length ≤ sizeLine then .ok (.con .own .tup vs) S1 else .bad
def lstK (m : Bool) (x : R (List PV)) : R PV := x.bind fun vs S1 => if vs.length ≤ sizeLine then .ok (newP m .lst vs S1).1 (newP m .lst vs S1).2 else .bad
@[simp] theorem eTup_eq : eTup tr Γ S = tupK (tr Γ S) := (rfl)
@[simp] theorem eLst_eq : eLst k tr Γ S = lstK k (tr Γ S) := (rfl)
@[simp] theorem tupK_ok : tupK (.ok ps S) = if ps.length ≤ sizeLine then .ok (.con .own .tup ps) S else .bad := (rfl)
@[simp] theorem lstK_f : lstK false (.ok ps S) = if ps.length ≤ sizeLine then .ok (.con .own .lst ps) S else .bad := (rfl)
@[simp] theorem lstK_t : lstK true (.ok ps S) = if ps.length ≤ sizeLine then .ok (.ref S.length) (S ++ [some (.lst, ps)]) else .bad := (rfl)
def calK (f : CF) (x : R (List PV)) : R PV := x.bind fun ps S1 => R.of (f ps S1)
@[simp] theorem eCall_eq {f : CF} : eCall f tr Γ S = calK f (tr Γ S) := (rfl)
@[simp] theorem calK_ok {f : CF} : calK f (.ok ps S) = R.of (f ps S) := (rfl)
def calPK (f : List PV → RP) (x : R (List PV)) : R PV := x.bind fun ps S1 => match ps.mapM (lendV S1) with
  | some qs => match f qs with
    | .ok v => .ok v S1
    | .ex c fs => .ex c fs S1
    | .bad => .bad
  | none => .bad
def calPK2 (f : List PV → RP) (S : Sto) : Option (List PV) → R PV
  | some qs => match f qs with
    | .ok v => .ok v S
    | .ex c fs => .ex c fs S
    | .bad => .bad
  | none => .bad
def calPK3 (S : Sto) : RP → R PV
  | .ok v => .ok v S
  | .ex c fs => .ex c fs S
  | .bad => .bad
@[simp] theorem eCallP_eq {f : List PV → RP} : eCallP f tr Γ S = calPK f (tr Γ S) := (rfl)
@[simp] theorem calPK_ok {f : List PV → RP} : calPK f (.ok ps S) = calPK2 f S (ps.mapM (lendV S)) := by unfold calPK calPK2; simp only [rbind_ok]
@[simp] theorem calPK2_some {f : List PV → RP} {qs : List PV} : calPK2 f S (some qs) = calPK3 S (f qs) := by unfold calPK2 calPK3; rfl
@[simp] theorem calPK3_ok : calPK3 S (.ok p) = .ok p S := (rfl)
@[simp] theorem calPK3_ex {c : Str} {fs : List (Str × PV)} : calPK3 S (.ex c fs) = .ex c fs S := (rfl)
def calWK (f : List PV → Sto → R PV) (x : R (List PV)) : R PV := x.bind fun ps S1 => f ps S1
@[simp] theorem eCallW_eq {f : List PV → Sto → R PV} : eCallW f tr Γ S = calWK f (tr Γ S) := (rfl)
@[simp] theorem calWK_ok {f : List PV → Sto → R PV} : calWK f (.ok ps S) = f ps S := (rfl)
def emK (T : String) (f : MF) (r : AF) (Γ : Gam) (x : R PV) : R PV := x.bind fun p S1 => if tyP T S1 p = true then (r Γ S1).bind fun ps S2 => R.of (f p ps S2) else .bad
def emK2 (f : MF) (p : PV) (x : R (List PV)) : R PV := x.bind fun ps S2 => R.of (f p ps S2)
@[simp] theorem eM_eq {T : String} {f : MF} : eM T f a tr Γ S = emK T f tr Γ (a Γ S) := (rfl)
@[simp] theorem emK_ok {T : String} {f : MF} : emK T f tr Γ (.ok p S) = if tyP T S p = true then emK2 f p (tr Γ S) else .bad := (rfl)
@[simp] theorem emK2_ok {f : MF} : emK2 f p (.ok ps S) = R.of (f p ps S) := (rfl)
/-! statements -/
def seqK (u : SF) : RS → RS
  | .nx Γ1 S1 => u Γ1 S1
  | r => r
@[simp] theorem sSeq_eq : sSeq t u Γ S = seqK u (t Γ S) := by unfold sSeq seqK; rfl
@[simp] theorem seqK_nx : seqK u (.nx Γ S) = u Γ S := (rfl)
@[simp] theorem seqK_rt : seqK u (.rt p S) = .rt p S := (rfl)
@[simp] theorem seqK_bk : seqK u (.bk Γ S) = .bk Γ S := (rfl)
@[simp] theorem seqK_ct : seqK u (.ct Γ S) = .ct Γ S := (rfl)
@[simp] theorem seqK_ex {c : Str} {fs : List (Str × PV)} : seqK u (.ex c fs Γ S) = .ex c fs Γ S := (rfl)
@[simp] theorem sNext_eq : sNext Γ S = .nx Γ S := (rfl)
@[simp] theorem sBreak_eq : sBreak Γ S = .bk Γ S := (rfl)
def exprK (Γ : Gam) (r : R PV) : RS := r.st Γ fun _ S1 => .nx Γ S1
def retK (Γ : Gam) (r : R PV) : RS := r.st Γ fun v S1 => .rt v S1
def setK (i : Nat) (Γ : Gam) (r : R PV) : RS := r.st Γ fun v S1 => .nx (Γ.set i (some v)) S1
def ifK (t u : SF) (Γ : Gam) (r : R Bool) : RS := r.st Γ fun k S1 => if k = true then t Γ S1 else u Γ S1
@[simp] theorem sExpr_eq : sExpr a Γ S = exprK Γ (a Γ S) := (rfl)
@[simp] theorem exprK_ok : exprK Γ (.ok p S) = .nx Γ S := (rfl)
@[simp] theorem exprK_ex {c : Str} {fs : List (Str × PV)} : exprK Γ (.ex c fs S) = .ex c fs Γ S := (rfl)
@[simp] theorem sRet_eq : sRet a Γ S = retK Γ (a Γ S) := (rfl)
@[simp] theorem retK_ok : retK Γ (.ok p S) = .rt p S := (rfl)
@[simp] theorem retK_ex {c : Str} {fs : List (Str × PV)} : retK Γ (.ex c fs S) = .ex c fs Γ S := (rfl)
@[simp] theorem sSet_eq : sSet i a Γ S = setK i Γ (a Γ S) := (rfl)
@[simp] theorem setK_ok : setK i Γ (.ok p S) = .nx (Γ.set i (some p)) S := (rfl)
@[simp] theorem setK_ex {c : Str} {fs : List (Str × PV)} : setK i Γ (.ex c fs S) = .ex c fs Γ S := (rfl)
@[simp] theorem sIf_eq : sIf s t u Γ S = ifK t u Γ (s Γ S) := (rfl)
theorem ifK_ok : ifK t u Γ (.ok k S) = if k = true then t Γ S else u Γ S := rfl
@[simp] theorem ifK_t : ifK t u Γ (.ok true S) = t Γ S := (rfl)
@[simp] theorem ifK_f : ifK t u Γ (.ok false S) = u Γ S := (rfl)
@[simp] theorem ifK_ex {c : Str} {fs : List (Str × PV)} : ifK t u Γ (.ex c fs S) = .ex c fs Γ S := (rfl)
def asgK (gt : GF) (Γ : Gam) (r : R PV) : RS := r.st Γ fun v S1 => (gt v Γ S1).st Γ fun Γ1 S2 => .nx Γ1 S2
def asgK2 (Γ : Gam) (r : R Gam) : RS := r.st Γ fun Γ1 S2 => .nx Γ1 S2
variable {gt : GF}
@[simp] theorem sAsg_eq : sAsg a gt Γ S = asgK gt Γ (a Γ S) := (rfl)
@[simp] theorem asgK_ok : asgK gt Γ (.ok p S) = asgK2 Γ (gt p Γ S) := (rfl)
@[simp] theorem asgK_ex {c : Str} {fs : List (Str × PV)} : asgK gt Γ (.ex c fs S) = .ex c fs Γ S := (rfl)
@[simp] theorem asgK2_ok : asgK2 Γ (.ok Γ' S) = .nx Γ' S := (rfl)
@[simp] theorem gN_eq : gN i p Γ S = .ok (Γ.set i (some p)) S := (rfl)
@[simp] theorem gNs_nil : gNs [] [] Γ S = .ok Γ S := (rfl)
@[simp] theorem gNs_cons {is : List Nat} : gNs (i :: is) (p :: ps) Γ S = gNs is ps (Γ.set i (some p)) S := (rfl)
@[simp] theorem gT_tup {is : List Nat} {m : Md} : gT is (.con m .tup ps) Γ S = gNs is ps Γ S := (rfl)
def subK (f : SetF) (v : PV) (ti : EF) (Γ : Gam) (r : R PV) : R Gam := r.bind fun o S1 => (ti Γ S1).bind fun i S2 => match f o i v S2 with
  | some S3 => .ok Γ S3
  | none => .bad
def subK2 (f : SetF) (v o : PV) (Γ : Gam) (r : R PV) : R Gam := r.bind fun i S2 => match f o i v S2 with
  | some S3 => .ok Γ S3
  | none => .bad
def subK3 (Γ : Gam) : Option Sto → R Gam
  | some S3 => .ok Γ S3
  | none => .bad
@[simp] theorem gSub_eq {f : SetF} : gSubF f a b p Γ S = subK f p b Γ (a Γ S) := (rfl)
@[simp] theorem subK_ok {f : SetF} : subK f p b Γ (.ok q S) = subK2 f p q Γ (b Γ S) := (rfl)
@[simp] theorem subK2_ok {f : SetF} : subK2 f p q Γ (.ok x S) = subK3 Γ (f q x p S) := by unfold subK2 subK3; simp only [rbind_ok]
@[simp] theorem subK3_some : subK3 Γ (some S) = .ok Γ S := (rfl)
def augK (i : Nat) (f : OF) (p : PV) (Γ : Gam) (r : R PV) : RS := r.st Γ fun q S1 => match f p q S1 with
  | some (v, S2) => .nx (Γ.set i (some v)) S2
  | none => .bad
def augK2 (i : Nat) (Γ : Gam) : Option (PV × Sto) → RS
  | some (v, S2) => .nx (Γ.set i (some v)) S2
  | none => .bad
theorem sAug_eq (h : Γ[i]? = some (some p)) : sAug i f a Γ S = augK i f p Γ (a Γ S) := by unfold sAug augK; rw [h] <;> rfl
@[simp] theorem augK_ok : augK i f p Γ (.ok q S) = augK2 i Γ (f p q S) := (rfl)
@[simp] theorem augK2_some : augK2 i Γ (some (p, S)) = .nx (Γ.set i (some p)) S := (rfl)
/-! loops -/
def forK (gt : GF) (t : SF) (Γ : Gam) (r : R (Stp × Nat)) : RS := r.st Γ fun q S1 => forI q.1 (sTurn gt t) q.2 0 Γ S1
@[simp] theorem sFor_eq {it : IF} : sFor it gt t Γ S = forK gt t Γ (it Γ S) := (rfl)
theorem forK_ok {st : Stp} : forK gt t Γ (.ok (st, n) S) = forI st (sTurn gt t) n 0 Γ S := rfl
theorem forK_L : forK gt t Γ (.ok (stL ps, ps.length + 1) S) = forL (sTurn gt t) ps Γ S := by
  show forI (stL ps) (sTurn gt t) (ps.length + 1) 0 Γ S = _
  have := forI_L (body := sTurn gt t) ps [] Γ S
  simpa using this
def r1K (r : R (List PV)) : R (Stp × Nat) := r.bind fun ps S1 => match ps with
  | [.int n] => if -(2 ^ 62) ≤ n ∧ n < 2 ^ 62 then .ok (stL (intsF 0 n.toNat), n.toNat + 1) S1 else .bad
  | _ => .bad
@[simp] theorem iR1_eq : iR1 tr Γ S = r1K (tr Γ S) := (rfl)
theorem intsF_len {lo : Int} {n : Nat} : (intsF lo n).length = n := by simp [intsF]
theorem r1K_ok {n : Int} (h : -(2 ^ 62) ≤ n ∧ n < 2 ^ 62) : r1K (.ok [.int n] S) = .ok (stL (intsF 0 n.toNat), (intsF 0 n.toNat).length + 1) S := by
  rw [intsF_len]
  exact if_pos h
def anyK (r : R PV) : R (Stp × Nat) := r.bind fun p S1 => match p with
  | .con _ .tup xs => .ok (stL xs, xs.length + 1) S1
  | .str z => .ok (stL (strs1 z), z.cps.toList.length + 1) S1
  | p => match walkB S1 p with
    | some q => .ok q S1
    | none => .bad
@[simp] theorem iAny_eq : iAny a Γ S = anyK (a Γ S) := (rfl)
@[simp] theorem anyK_tup {m : Md} : anyK (.ok (.con m .tup ps) S) = .ok (stL ps, ps.length + 1) S := (rfl)
@[simp] theorem anyK_lst {m : Md} : anyK (.ok (.con m .lst ps) S) = .ok (stL ps, ps.length + 1) S := (rfl)
@[simp] theorem anyK_str {z : Str} : anyK (.ok (.str z) S) = .ok (stL (strs1 z), (strs1 z).length + 1) S := by
  show R.ok _ _ = _
  rw [show (strs1 z).length = z.cps.toList.length from List.length_map ..]
@[simp] theorem sTurn_N {i : Nat} : sTurn (gN i) t p Γ S = t (Γ.set i (some p)) S := (rfl)
@[simp] theorem forL_nil {body : PV → SF} : forL body [] Γ S = .nx Γ S := (rfl)
def forK2 (body : PV → SF) (ps : List PV) : RS → RS
  | .nx Γ1 S1 => forL body ps Γ1 S1
  | .ct Γ1 S1 => forL body ps Γ1 S1
  | .bk Γ1 S1 => .nx Γ1 S1
  | r => r
theorem forL_cons {body : PV → SF} : forL body (p :: ps) Γ S = forK2 body ps (body p Γ S) := by unfold forK2; rw [forL] <;> cases body p Γ S <;> rfl
@[simp] theorem forK2_nx {body : PV → SF} : forK2 body ps (.nx Γ S) = forL body ps Γ S := (rfl)
@[simp] theorem forK2_ct {body : PV → SF} : forK2 body ps (.ct Γ S) = forL body ps Γ S := (rfl)
@[simp] theorem forK2_bk {body : PV → SF} : forK2 body ps (.bk Γ S) = .nx Γ S := (rfl)
@[simp] theorem forK2_rt {body : PV → SF} : forK2 body ps (.rt p S) = .rt p S := (rfl)
@[simp] theorem forK2_ex {body : PV → SF} {c : Str} {fs : List (Str × PV)} : forK2 body ps (.ex c fs Γ S) = .ex c fs Γ S := (rfl)
/-! by values -/
@[simp] theorem deref_con {m : Md} {k : Kd} : deref S (.con m k ps) = some (k, ps) := (rfl)
@[simp] theorem deref_ref : deref S (.ref n) = S[n]?.join := (rfl)
@[simp] theorem derefH_own {k : Kd} : derefH S (.con .own k ps) = some (k, ps) := (rfl)
@[simp] theorem derefH_lent {k : Kd} : derefH S (.con .lent k ps) = some (k, ps) := (rfl)
@[simp] theorem derefH_ref : derefH S (.ref n) = S[n]?.join := (rfl)
@[simp] theorem iOp0_int {f : Int → Int → PV} {i j : Int} : iOp0 f (.int i) (.int j) S = some (f i j, S) := (rfl)
@[simp] theorem iOp_int {C : Int → Int → Prop} [∀ i j, Decidable (C i j)] {f : Int → Int → PV} {i j : Int} : iOp C f (.int i) (.int j) S = if C i j then some (f i j, S) else none := (rfl)
@[simp] theorem addF_int {i j : Int} : addF k (.int i) (.int j) S = some (.int (i + j), S) := (rfl)
@[simp] theorem addF_str {i j : Str} : addF k (.str i) (.str j) S = if i.length + j.length ≤ sizeLine then some (.str (i ++ j), S) else none := (rfl)
@[simp] theorem mulF_int {i j : Int} : mulF k (.int i) (.int j) S = if CMul i j then some (.int (i * j), S) else none := (rfl)
@[simp] theorem eqF_int {i j : Int} : eqF (.int i) (.int j) S = some (.bl (decide (i = j)), S) := (rfl)
@[simp] theorem eqF_str {i j : Str} : eqF (.str i) (.str j) S = some (.bl (decide (i = j)), S) := (rfl)
@[simp] theorem eqF_bl {i j : Bool} : eqF (.bl i) (.bl j) S = some (.bl (decide (i = j)), S) := (rfl)
@[simp] theorem neF_int {i j : Int} : neF (.int i) (.int j) S = some (.bl (!decide (i = j)), S) := (rfl)
@[simp] theorem neF_str {i j : Str} : neF (.str i) (.str j) S = some (.bl (!decide (i = j)), S) := (rfl)
@[simp] theorem neF_bl {i j : Bool} : neF (.bl i) (.bl j) S = some (.bl (!decide (i = j)), S) := (rfl)
def ofO (S : Sto) : Option PV → Option (PV × Sto)
  | some v => some (v, S)
  | none => none
@[simp] theorem ofO_some : ofO S (some p) = some (p, S) := (rfl)
@[simp] theorem ixF_eq : ixF p q S = ofO S (ixB S p q) := by unfold ixF ofO <;> cases ixB S p q <;> rfl
@[simp] theorem ixB_lst {i : Int} {m : Md} : ixB S (.con m .lst ps) (.int i) = atI ps i := (rfl)
@[simp] theorem ixB_tup {i : Int} {m : Md} : ixB S (.con m .tup ps) (.int i) = atI ps i := (rfl)
def ixD (i : Int) : Option (Kd × List PV) → Option PV
  | some (.lst, xs) => atI xs i
  | some (.tup, xs) => atI xs i
  | _ => none
@[simp] theorem ixB_refD {i : Int} : ixB S (.ref n) (.int i) = ixD i S[n]?.join := by unfold ixB ixD; simp only [deref_ref] <;> rcases S[n]?.join with _ | ⟨k', xs'⟩ <;> first | rfl | (cases k' <;> rfl)
@[simp] theorem ixD_lst {i : Int} : ixD i (some (.lst, ps)) = atI ps i := (rfl)
def lenD (S : Sto) : Option (Kd × List PV) → Option (PV × Sto)
  | some (.lst, xs) => some (.int xs.length, S)
  | some (.tup, xs) => some (.int xs.length, S)
  | _ => none
@[simp] theorem lenF_refD : lenF [.ref n] S = lenD S S[n]?.join := by unfold lenF lenD; simp only [deref_ref] <;> rcases S[n]?.join with _ | ⟨k', xs'⟩ <;> first | rfl | (cases k' <;> rfl)
@[simp] theorem lenD_lst : lenD S (some (.lst, ps)) = some (.int ps.length, S) := (rfl)
def setD (n : Nat) (k : Int) (v : PV) (S : Sto) : Option (Kd × List PV) → Option Sto
  | some (.lst, xs) => (ixN xs.length k).map fun j => S.set n (some (.lst, xs.set j v))
  | _ => none
@[simp] theorem setLF_refD {i : Int} : setLF (.ref n) (.int i) p S = setD n i p S S[n]?.join := by unfold setLF setD; dsimp only <;> rcases S[n]?.join with _ | ⟨k', xs'⟩ <;> first | rfl | (cases k' <;> rfl)
@[simp] theorem setD_lst {i : Int} : setD n i p S (some (.lst, ps)) = (ixN ps.length i).map fun j => S.set n (some (.lst, ps.set j p)) := (rfl)
def lstD (f : List PV → List PV → Option (PV × List PV)) (n : Nat) (qs : List PV) (S : Sto) : Option (Kd × List PV) → Option (PV × Sto)
  | some (.lst, xs) => (f xs qs).map fun q => (q.1, S.set n (some (.lst, q.2)))
  | _ => none
@[simp] theorem lstF_refD {f : List PV → List PV → Option (PV × List PV)} {qs : List PV} : lstF f (.ref n) qs S = lstD f n qs S S[n]?.join := by unfold lstF lstD; dsimp only <;> rcases S[n]?.join with _ | ⟨k', xs'⟩ <;> first | rfl | (cases k' <;> rfl)
@[simp] theorem lstD_lst {f : List PV → List PV → Option (PV × List PV)} {qs : List PV} : lstD f n qs S (some (.lst, ps)) = (f ps qs).map fun q => (q.1, S.set n (some (.lst, q.2))) := (rfl)
@[simp] theorem appendF_eq : appendF = lstF fun xs ps => match ps with
  | [v] => if xs.length < sizeLine then some (.non, xs ++ [v]) else none
  | _ => none := rfl
@[simp] theorem popF_eq : popF = lstF fun xs ps => match ps with
  | [] => (xs[xs.length - 1]?).map fun v => (v, xs.dropLast)
  | _ => none := rfl
def tyD (T : String) : Option (Kd × List PV) → Bool
  | some (.lst, _) => T == "list"
  | _ => false
@[simp] theorem tyP_refD {T : String} : tyP T S (.ref n) = tyD T S[n]?.join := by unfold tyP tyD; simp only [deref_ref] <;> rcases S[n]?.join with _ | ⟨k', xs'⟩ <;> first | rfl | (cases k' <;> rfl)
@[simp] theorem tyD_lst {T : String} : tyD T (some (.lst, ps)) = (T == "list") := (rfl)
theorem ixB_ref {i : Int} (h : S[n]? = some (some (.lst, ps))) : ixB S (.ref n) (.int i) = atI ps i := by simp [ixB, h]
@[simp] theorem lenF_lst {m : Md} : lenF [.con m .lst ps] S = some (.int ps.length, S) := (rfl)
@[simp] theorem lenF_tup {m : Md} : lenF [.con m .tup ps] S = some (.int ps.length, S) := (rfl)
@[simp] theorem lenF_str {z : Str} : lenF [.str z] S = if z.length ≤ sizeLine then some (.int z.length, S) else none := (rfl)
theorem lenF_ref (h : S[n]? = some (some (.lst, ps))) : lenF [.ref n] S = some (.int ps.length, S) := by simp [lenF, h]
theorem setLF_ref {i : Int} (h : S[n]? = some (some (.lst, ps))) : setLF (.ref n) (.int i) p S = (ixN ps.length i).map fun j => S.set n (some (.lst, ps.set j p)) := by simp [setLF, h]
@[simp] theorem int1F_int {i : Int} : int1F [.int i] S = some (.int i, S) := (rfl)
@[simp] theorem absF_int {i : Int} : absF [.int i] S = some (.int (if i < 0 then -i else i), S) := (rfl)
theorem appendF_ref (h : S[n]? = some (some (.lst, ps))) (hl : ps.length < sizeLine) : appendF (.ref n) [p] S = some (.non, S.set n (some (.lst, ps ++ [p]))) := by simp [appendF, lstF, h, hl]
theorem tyP_ref (h : S[n]? = some (some (.lst, ps))) : tyP "list" S (.ref n) = true := by simp [tyP, h]
@[simp] theorem tyP_str {z : Str} : tyP "str" S (.str z) = true := (rfl)
/-! the ends of defs -/
def ruwK : RS → R PV
  | .nx _ S' => .ok .non S'
  | .rt v S' => .ok v S'
  | .ex c fs _ S' => .ex c fs S'
  | _ => .bad
theorem runW_eq {np n : Nat} {body : SF} (h : ps.length = np) : runW np n body ps S = ruwK (body (ps.map some ++ List.replicate (n - ps.length) none) S) := by
  unfold runW ruwK; rw [if_pos h] <;> cases body (ps.map some ++ List.replicate (n - ps.length) none) S <;> rfl
@[simp] theorem ruwK_nx : ruwK (.nx Γ S) = .ok .non S := (rfl)
@[simp] theorem ruwK_rt : ruwK (.rt p S) = .ok p S := (rfl)
@[simp] theorem ruwK_ex {c : Str} {fs : List (Str × PV)} : ruwK (.ex c fs Γ S) = .ex c fs S := (rfl)
def rupK : RS → RP
  | .nx _ _ => .ok .non
  | .rt v S => resP S v
  | .ex c fs _ S => if cleans (fs.map (·.2)) = true then .ex c fs else .bad
  | _ => .bad
theorem runP_eq {np n : Nat} {body : SF} (h : ps.length = np) : runP np n body ps = rupK (body (ps.map some ++ List.replicate (n - ps.length) none) []) := by
  unfold runP rupK; rw [if_pos h] <;> cases body (ps.map some ++ List.replicate (n - ps.length) none) [] <;> rfl
@[simp] theorem rupK_nx : rupK (.nx Γ S) = .ok .non := (rfl)
@[simp] theorem rupK_rt : rupK (.rt p S) = resP S p := (rfl)
@[simp] theorem rupK_ex {c : Str} {fs : List (Str × PV)} : rupK (.ex c fs Γ S) = if cleans (fs.map (·.2)) = true then .ex c fs else .bad := (rfl)
theorem resP_clean (h : clean p = true) : resP S p = .ok p := by unfold resP frzV; rw [if_pos h]
@[simp] theorem resP_bl : resP S (.bl k) = .ok (.bl k) := (rfl)
@[simp] theorem resP_int {i : Int} : resP S (.int i) = .ok (.int i) := (rfl)
@[simp] theorem resP_str {z : Str} : resP S (.str z) = .ok (.str z) := (rfl)
@[simp] theorem resP_non : resP S .non = .ok .non := (rfl)
theorem lend_clean (h : clean p = true) : lendV S p = some p := by unfold lendV; rw [if_pos h]
@[simp] theorem lend_int {i : Int} : lendV S (.int i) = some (.int i) := (rfl)
@[simp] theorem lend_str {z : Str} : lendV S (.str z) = some (.str z) := (rfl)
@[simp] theorem lend_bl : lendV S (.bl k) = some (.bl k) := (rfl)
@[simp] theorem lend_non : lendV S .non = some .non := (rfl)
theorem szl : (sizeLine : Nat) = 16777216 := rfl
end
end Pv

namespace Pv
open PySem PySem.Spec PyProof.Rows L2
/-! Plain tools: comprehensions as folds, the frames of a store. -/
/-- one turn of a comprehension: what is kept -/
def lcT (gt : GF) (tt : BF) (te : EF) (Γ : Gam) (p : PV) (S : Sto) : R (Option PV) := match gt p Γ S with
  | .ok Γ1 S1 => match tt Γ1 S1 with
    | .ok true S2 => match te Γ1 S2 with
      | .ok v S3 => .ok (some v) S3
      | _ => .bad
    | .ok false S2 => .ok none S2
    | _ => .bad
  | _ => .bad
def lcL (f : PV → Sto → R (Option PV)) : List PV → List PV → Sto → R (List PV)
  | [], acc, S => .ok acc S
  | p :: ps, acc, S => match f p S with
    | .ok (some v) S1 => if acc.length < sizeLine then lcL f ps (acc ++ [v]) S1 else .bad
    | .ok none S1 => lcL f ps acc S1
    | _ => .bad
theorem lcI_L {gt : GF} {tt : BF} {te : EF} {Γ : Gam} : ∀ (ps qs acc : List PV) (S : Sto), lcI (stL (qs ++ ps)) gt tt te Γ (ps.length + 1) qs.length acc S = lcL (lcT gt tt te Γ) ps acc S
  | [], qs, acc, S => by
    simp only [List.append_nil, List.length_nil, lcI, stL, lcL]
    rw [List.getElem?_eq_none (Nat.le_refl _)]
  | p :: ps, qs, acc, S => by
    have hd : (qs ++ p :: ps)[qs.length]? = some p := by simp
    have ih := fun a S' => lcI_L (gt := gt) (tt := tt) (te := te) (Γ := Γ) ps (qs ++ [p]) a S'
    simp only [List.append_assoc, List.cons_append, List.nil_append, List.length_append, List.length_cons, List.length_nil, Nat.zero_add] at ih
    rw [List.length_cons, lcI, lcL]
    simp only [stL]
    rw [hd]
    simp only [lcT]
    rcases gt p Γ S with ⟨Γ1, S1⟩ | _ | _ <;> try rfl
    dsimp only
    rcases tt Γ1 S1 with ⟨b, S2⟩ | _ | _ <;> try rfl
    cases b with
    | false => exact ih acc S2
    | true =>
      dsimp only
      rcases te Γ1 S2 with ⟨v, S3⟩ | _ | _ <;> try rfl
      dsimp only
      split
      · exact ih _ _
      · rfl
def lcK (mu : Bool) (gt : GF) (tt : BF) (te : EF) (Γ : Gam) (r : R (Stp × Nat)) : R PV := r.bind fun q S1 => (lcI q.1 gt tt te Γ q.2 0 [] S1).bind fun acc S2 => .ok (newP mu .lst acc S2).1 (newP mu .lst acc S2).2
def lcK2 (mu : Bool) : R (List PV) → R PV
  | .ok acc S2 => .ok (newP mu .lst acc S2).1 (newP mu .lst acc S2).2
  | .ex c fs S => .ex c fs S
  | .bad => .bad
variable {mu : Bool} {it : IF} {gt : GF} {tt : BF} {te : EF} {vs : List Nat} {Γ : Gam} {S : Sto} {ps acc : List PV}
@[simp] theorem eLc_eq : eLc mu it gt tt te vs Γ S = lcK mu gt tt te (wipeG Γ vs) (it Γ S) := (rfl)
@[simp] theorem lcK_L : lcK mu gt tt te Γ (.ok (stL ps, ps.length + 1) S) = lcK2 mu (lcL (lcT gt tt te Γ) ps [] S) := by
  have := lcI_L (gt := gt) (tt := tt) (te := te) (Γ := Γ) ps [] [] S
  simp only [List.nil_append, List.length_nil] at this
  unfold lcK lcK2
  simp only [rbind_ok]
  rw [this]
  cases lcL (lcT gt tt te Γ) ps [] S <;> rfl
@[simp] theorem lcK_L2 {m : Nat} (h : m = ps.length + 1) : lcK mu gt tt te Γ (.ok (stL ps, m) S) = lcK2 mu (lcL (lcT gt tt te Γ) ps [] S) := by subst h; exact lcK_L
@[simp] theorem forK_L2 {t : SF} {m : Nat} (h : m = ps.length + 1) : forK gt t Γ (.ok (stL ps, m) S) = forL (sTurn gt t) ps Γ S := by subst h; exact forK_L
@[simp] theorem lcK2_f : lcK2 false (.ok acc S) = .ok (.con .own .lst acc) S := (rfl)
@[simp] theorem lcK2_t : lcK2 true (.ok acc S) = .ok (.ref S.length) (S ++ [some (.lst, acc)]) := (rfl)
@[simp] theorem wipeG_nil : wipeG Γ [] = Γ := (rfl)
@[simp] theorem wipeG_cons {v : Nat} : wipeG Γ (v :: vs) = (wipeG Γ vs).set v none := (rfl)
/-- each turn keeps a value, the store keeps its shape -/
theorem lcL_inv {f : PV → Sto → R (Option PV)} (P : Sto → Prop) (Q : PV → Prop) : ∀ (ps acc : List PV) (S : Sto), (∀ p ∈ ps, ∀ S, P S → ∃ v S', f p S = .ok (some v) S' ∧ P S' ∧ Q v) → P S → acc.length + ps.length ≤ sizeLine → ∃ vs S', lcL f ps acc S = .ok (acc ++ vs) S' ∧ P S' ∧ (∀ v ∈ vs, Q v) ∧ vs.length = ps.length
  | [], acc, S, _, h, _ => ⟨[], S, by simp [lcL], h, by simp, rfl⟩
  | p :: ps, acc, S, F, h, hl => by
    obtain ⟨v, S1, e, h1, q⟩ := F p (by simp) S h
    simp only [List.length_cons] at hl
    obtain ⟨vs, S2, e2, h2, q2, l2⟩ := lcL_inv P Q ps (acc ++ [v]) S1 (fun p hp => F p (by simp [hp])) h1 (by simp; omega)
    refine ⟨v :: vs, S2, ?_, h2, ?_, by simp [l2]⟩
    · rw [lcL, e]; dsimp only; rw [if_pos (by omega), e2]; simp
    · intro u hu; rcases List.mem_cons.mp hu with rfl | hu
      · exact q
      · exact q2 u hu
theorem lcL_map {f : PV → Sto → R (Option PV)} (m : PV → PV) (S : Sto) : ∀ (ps acc : List PV), (∀ p ∈ ps, f p S = .ok (some (m p)) S) → acc.length + ps.length ≤ sizeLine → lcL f ps acc S = .ok (acc ++ ps.map m) S
  | [], acc, _, _ => by simp [lcL]
  | p :: ps, acc, F, hl => by
    simp only [List.length_cons] at hl
    rw [lcL, F p (by simp)]; dsimp only; rw [if_pos (by omega), lcL_map m S ps _ (fun p hp => F p (by simp [hp])) (by simp; omega)]; simp
theorem lcL_maps {α : Type} {f : PV → Sto → R (Option PV)} (g m : α → PV) (S : Sto) : ∀ (l : List α) (acc : List PV), (∀ p ∈ l, f (g p) S = .ok (some (m p)) S) → acc.length + l.length ≤ sizeLine → lcL f (l.map g) acc S = .ok (acc ++ l.map m) S
  | [], acc, _, _ => by simp [lcL]
  | p :: ps, acc, F, hl => by
    simp only [List.length_cons] at hl
    rw [List.map_cons, lcL, F p (by simp)]; dsimp only; rw [if_pos (by omega), lcL_maps g m S ps _ (fun p hp => F p (by simp [hp])) (by simp; omega)]; simp
theorem blsOf_maps {α : Type} (b : α → Bool) : ∀ l : List α, blsOf (l.map fun c => .bl (b c)) = some (l.map b)
  | [] => rfl
  | a :: l => by simp [blsOf, blsOf_maps b l]
/-- the walk of a for, by what holds before each turn -/
theorem forL_inv {body : PV → SF} (P : Gam → Sto → Prop) (T : RS → Prop) : ∀ (ps : List PV) (Γ : Gam) (S : Sto), (∀ p ∈ ps, ∀ Γ S, P Γ S → (∃ Γ' S', (body p Γ S = .nx Γ' S' ∨ body p Γ S = .ct Γ' S') ∧ P Γ' S')) → P Γ S → ∃ Γ' S', forL body ps Γ S = .nx Γ' S' ∧ P Γ' S'
  | [], Γ, S, _, h => ⟨Γ, S, rfl, h⟩
  | p :: ps, Γ, S, F, h => by
    obtain ⟨Γ1, S1, e, h1⟩ := F p (by simp) Γ S h
    obtain ⟨Γ2, S2, e2, h2⟩ := forL_inv P T ps Γ1 S1 (fun p hp => F p (by simp [hp])) h1
    refine ⟨Γ2, S2, ?_, h2⟩
    rw [forL_cons]
    rcases e with e | e <;> rw [e] <;> simpa using e2
theorem ixN_ok {l : Nat} {i : Int} (h0 : 0 ≤ i) (h1 : i < l) : ixN l i = some i.toNat := by
  unfold ixN
  rw [if_pos h0, if_pos (by omega)]
theorem atI_mem {α : Type} {xs : List α} {i : Int} (h0 : 0 ≤ i) (h1 : i < xs.length) : ∃ x, L2.atI xs i = some x ∧ x ∈ xs := by
  unfold L2.atI
  rw [ixN_ok h0 h1]
  have : i.toNat < xs.length := by omega
  exact ⟨xs[i.toNat], by simp [this], List.getElem_mem _⟩
@[simp] theorem newP_f {k : Kd} : newP false k ps S = (.con .own k ps, S) := (rfl)
@[simp] theorem newP_t {k : Kd} : newP true k ps S = (.ref S.length, S ++ [some (k, ps)]) := (rfl)
theorem addF_lst {m : Bool} {m1 m2 : Md} {qs : List PV} (h1 : m1 ≠ .out) (h2 : m2 ≠ .out) (h : ps.length + qs.length ≤ 16777216) : addF m (.con m1 .lst ps) (.con m2 .lst qs) S = some (newP m .lst (ps ++ qs) S) := by
  have : ps.length + qs.length ≤ sizeLine := h
  cases m1 <;> cases m2 <;> simp_all [addF]
theorem ixB_str1 {S : Sto} {z : Str} {i : Int} (hz : z.length ≤ sizeLine) (h0 : 0 ≤ i) (h1 : i < z.length) : ∃ c, ixB S (.str z) (.int i) = some (.str ⟨#[c]⟩) ∧ c ∈ z.cps.toList := by
  obtain ⟨c, e, m⟩ := atI_mem (xs := z.cps.toList) h0 (by simpa [Str.length] using h1)
  exact ⟨c, by simp [ixB, hz, e], m⟩
theorem strsOf_of : ∀ (vs : List PV), (∀ v ∈ vs, ∃ c : Str, v = .str c ∧ c.length = 1) → ∃ ys : List Str, strsOf vs = some ys ∧ ys.length = vs.length ∧ ∀ y ∈ ys, y.length = 1
  | [], _ => ⟨[], rfl, rfl, by simp⟩
  | v :: vs, h => by
    obtain ⟨c, rfl, hc⟩ := h v (by simp)
    obtain ⟨ys, e, l, q⟩ := strsOf_of vs (fun v hv => h v (by simp [hv]))
    refine ⟨c :: ys, by simp [strsOf, e], by simp [l], ?_⟩
    intro y hy; rcases List.mem_cons.mp hy with rfl | hy
    · exact hc
    · exact q y hy
theorem sum_ones : ∀ (ys : List Str), (∀ y ∈ ys, y.length = 1) → (ys.map (·.length)).sum = ys.length
  | [], _ => rfl
  | y :: ys, h => by simp [h y (by simp), sum_ones ys (fun y hy => h y (by simp [hy]))]; omega
theorem len_app (a b : Str) : (a ++ b : Str).length = a.length + b.length := PySem.Str.length_append a b
theorem join_len {x : Str} (hx : x.length = 0) (ys : List Str) (h : ∀ y ∈ ys, y.length = 1) : (Txt.join x ys).length = ys.length := by
  show (Builtin.Str.glued x ys).length = _
  rw [StrLaws.glued_eq_join]
  induction ys with
  | nil => rfl
  | cons a r ih =>
    cases r with
    | nil => simpa [PySem.Str.join] using h a (by simp)
    | cons b r =>
      have := ih (fun y hy => h y (by simp at hy ⊢; exact Or.inr hy))
      simp only [PySem.Str.join, len_app, this, h a (by simp), hx, List.length_cons]; omega
theorem joinF_ones {S : Sto} {x : Str} {m : Md} {vs : List PV} (hx : x.length = 0) (h : ∀ v ∈ vs, ∃ c : Str, v = .str c ∧ c.length = 1) (hl : vs.length ≤ sizeLine) :
    ∃ t : Str, joinF (.str x) [.con m .lst vs] S = some (.str t, S) ∧ t.length = vs.length := by
  obtain ⟨ys, e, l, q⟩ := strsOf_of vs h
  have : vs.length ≤ 16777216 := hl
  refine ⟨Txt.join x ys, ?_, by rw [join_len hx ys q, l]⟩
  simp [joinF, e, sum_ones ys q, hx, l, this]
theorem inB_strs {S : Sto} {m : Md} {k : Kd} (hk : k = .lst ∨ k = .tup) (w : Str) (l : List Str) : inB S (.str w) (.con m k (l.map PV.str)) = some (decide (w ∈ l)) := by
  have f : (l.map PV.str).all flatP = true := by simp [flatP]
  have g : ((l.map PV.str).any fun y => eqP y (.str w)) = decide (w ∈ l) := by
    induction l with
    | nil => rfl
    | cons a l ih =>
      have ih := ih (by simp [flatP])
      rw [List.map_cons, List.any_cons, ih]
      have e : (a == w) = decide (w = a) := by
        by_cases h : a = w
        · subst h; simp
        · have h' : ¬ w = a := fun q => h q.symm
          simp only [h', decide_false]
          exact Bool.eq_false_iff.mpr (fun q => h (eq_of_beq q))
      simp [eqP, e]
  simp only [inB, deref_con, f, flatP, hk, and_self, if_true, g]
theorem inF_strs {S : Sto} {m : Md} {k : Kd} (hk : k = .lst ∨ k = .tup) (w : Str) (l : List Str) : inF (.str w) (.con m k (l.map PV.str)) S = some (.bl (decide (w ∈ l)), S) := by
  unfold inF; rw [inB_strs hk]; rfl
theorem ninF_strs {S : Sto} {m : Md} {k : Kd} (hk : k = .lst ∨ k = .tup) (w : Str) (l : List Str) : ninF (.str w) (.con m k (l.map PV.str)) S = some (.bl (!decide (w ∈ l)), S) := by
  unfold ninF; rw [inB_strs hk]; rfl
end Pv

namespace Pv
open PySem PySem.Spec PyProof.Rows L2
/-! Exceptions: raise, try. -/
variable {X : Cx} {W : WX} {K : PySem.W.Frag} {mg : Str → Option Value}
/-- an exception class of the program over ValueError, without an own __init__ -/
structure ExcC (K : PySem.W.Frag) (mg : Str → Option Value) (x : Str) (C : Addr) : Prop where
  g : mg x = some (.ref C)
  q : PySem.W.excIn K C He.veBase "ValueError.__new__" = true
  k : PySem.W.keepIn K (.ref C) = true
  b : PySem.W.subIn K (.ref C) (.type "BaseException") = some true
  t : PySem.W.typeIn K (.ref C) = some (.type "type")
theorem pmk_own0 {x : Str} {C : Addr} {p pos : Pos} (T : ExcC X.K X.mg x C) (hg : Gl X x) (hdb : (x == ("__debug__" : Str)) = false := by decide) :
    PMk X (.Call (.Name x p) [] [] pos) (fun _ H Q => Q (.ref C) none H) := by
  intro pins s σ H Q I h
  refine wpAny_Call_Name_kw (ld_glob I hg T.g ?_ hdb)
  refine PySem.W.callWith_K0 I.kIn T.k ?_
  show wpAny _ _ (call (.ref C) []) _ _ _
  obtain ⟨bm, N, nm, qn, bs, hdct, sn, sub, ab, col, dd, k0, k1, k2, k3, k5, mN, hC, hN, hni, T'⟩ := exc_obj I.kIn T.q
  refine wpAny_call_exc_subT F.excBase_ValueError T' hC hN hni (fun h' e hm => ?_) (Nat.zero_le _)
  exact mk_of I hm (raises_own T.b T.t) h (I.hok.gone hm.new)
def sRaise0 (x : Str) : SF := fun Γ S => .ex x [] Γ S
theorem St.raise0 {x : Str} {C : Addr} {p pos pos2 : Pos} (hc : X.calm = true) (tk : Takes X W) (T : ExcC X.K X.mg x C) (hg : Gl X x) (hdb : (x == ("__debug__" : Str)) = false := by decide) :
    St X W (.Raise (some (.Call (.Name x p) [] [] pos)) none pos2) (sRaise0 x) :=
  ps_imp (ps_raise hc tk (pmk_own0 T hg hdb)) fun D σ H ⟨g, Γ, S, rel, rg, ok⟩ => ok g H σ (.ref C) none (Ext.refl rel) rg ⟨T.g, Or.inl ⟨rfl, rfl⟩⟩
/-- what __init__ leaves: its arguments as fields -/
def spIni1 (C : Addr) (f : Str) : Sp := fun vs H Q _ => ∃ a w, vs = [.ref a, w] ∧ H a = some (exo a C none) ∧ ∀ d, H d = none → d ≠ a → Q .non (upd (upd H d (exd d [(f, w)])) a (exo a C (some d)))
/-- an exception class whose __init__ keeps its argument in field f -/
structure ExcI (P : Program) (w : World) (K : PySem.W.Frag) (mg : Str → Option Value) (base : Heap) (x f : Str) (C : Addr) : Prop where
  g : mg x = some (.ref C)
  o : OexC K C
  i : ∃ fI fd ps, PySem.W.findIn K (.ref C) "__init__" = some (some (.ref fI)) ∧ PySem.W.typeIn K (.ref fI) = some (.type "function") ∧ FnOk P w K mg base CX0 1 fI fd ps (spIni1 C f) ∧ Binds K fd ps []
theorem Ext.laid {Y : Kx} {H : Hp} {g : G} {S : Sto} {d : Addr} {o : HO} (rel : Rel Y H g S) (hd : H d = none) : Ext Y H g S (upd H d o) g S := by
  have ne : ∀ {a u}, H a = some u → a ≠ d := fun h z => by rw [z, hd] at h; cases h
  have fr : ∀ a u, H a = some u → upd H d o a = some u := fun a u h => by rw [upd_ne (ne h)]; exact h
  have up : Up H g S.length (upd H d o) g S.length := ⟨fun a u h _ => fr a u h, fun _ h => h, fun _ h => h, fun _ _ => rfl, Nat.le_refl _⟩
  refine ⟨⟨fun n k xs e => ?_, rel.inj, rel.fF, rel.fT, fun a h => ?_⟩, fun a u h _ => fr a u h, fun n h => Or.inl ⟨h, rfl⟩, fun _ _ => rfl, Nat.le_refl _, fun _ h => h, rfl, fun a u h => ⟨u, fr a u h⟩, fun _ h => Or.inl h⟩
  · obtain ⟨u, vs, h1, h2, h3, h4⟩ := rel.ob n k xs e
    exact ⟨u, vs, fr _ _ h1, h2, h3, RVs.mono up _ _ h4⟩
  · obtain ⟨u, h1⟩ := rel.tr a h
    exact ⟨u, fr _ _ h1⟩
def sRaise1 (x f : Str) (tr : AF) : SF := fun Γ S => (tr Γ S).st Γ fun vs S1 => match vs with
  | [v] => .ex x [(f, v)] Γ S1
  | _ => .bad
theorem St.raise1 {x f : Str} {C : Addr} {k : Nat} {e : Expr} {tr : AF} {p pos pos2 : Pos} (hc : X.calm = true) (tk : Takes X W) (T : ExcI X.prog X.w X.K X.mg X.base x f C) (hr : Room k X.A) (hk : 2 ≤ k) (hg : Gl X x) (ha : A X W [e] tr) (hdb : (x == ("__debug__" : Str)) = false := by decide)
    (hs : starEach (e :: []) X.env = (false, eval e X.env) :: starEach [] X.env := by rfl) (hpl : (backTo pos (starEach [] X.env)).any (·.1) = false := by rfl) :
    St X W (.Raise (some (.Call (.Name x p) [e] [] pos)) none pos2) (sRaise1 x f tr) := by
  obtain ⟨fI, fd, ps, i1, i2, F1, hb⟩ := T.i
  refine ps_imp (ps_raise hc tk (pmk_oex T.o i1 i2 F1 (hr.mono hk) hb (.nil) pass0 hg T.g ha hdb hs hpl)) fun D σ H q => ?_
  obtain ⟨g, Γ, S, rel, rg, ok⟩ := q
  refine ⟨g, Γ, S, rel, rg, OKw.mono (OKs.st rel rg ok) fun vs S1 g1 H1 _ e1 h1 xs rx => ?_⟩
  split at h1
  · rename_i v
    simp only [RVs] at rx
    obtain ⟨x1, _, rfl, h2, rfl⟩ := rx
    refine ⟨by simp, fun a ha => ⟨a, x1, rfl, upd_same, fun d hd hda => ⟨rfl, d, [(f, x1)], upd_same, ?_, ?_, ?_⟩⟩⟩
    · rw [upd_ne hda, upd_same]
    · rw [upd_ne hda] at hd; exact hd
    · have hd1 : H1 d = none := by rw [upd_ne hda] at hd; exact hd
      have eH : upd (del (upd (upd (upd H1 a (exo a C none)) d (exd d [(f, x1)])) a (exo a C (some d))) a) d (.xd [(f, x1)]) = upd H1 d (.xd [(f, x1)]) := by
        funext b
        by_cases hb : b = d
        · subst hb; rw [upd_same, upd_same]
        · rw [upd_ne hb, upd_ne hb]
          by_cases hba : b = a
          · subst hba; rw [del_same, ha]
          · rw [del_ne hba, upd_ne hba, upd_ne hb, upd_ne hba]
      rw [eH]
      have e2 : Ext X H1 g1 S1 (upd H1 d (.xd [(f, x1)])) g1 S1 := Ext.laid e1.rel hd1
      refine h1 g1 _ σ (.ref C) (some d) e2 ((rg.up rel e1).up e1.rel e2) ⟨T.g, Or.inr ⟨d, [x1], rfl, upd_same, ?_⟩⟩
      simp only [List.map_cons, List.map_nil, RVs]
      exact ⟨x1, [], rfl, RV.up e1.rel e2 _ _ h2, rfl⟩
  · exact h1.elim
/-- the def __init__ that keeps its argument -/
theorem ini1_ok {P : Program} {w : World} {base : Heap} {qual : Str} {st : Stmt} {dvs : List V} {kws : List (Str × V)} {fI : Addr} {fd : FuncData} {f : Str} {C : Addr} {p1 p2 p3 p4 p5 p6 : Pos}
    (F : FunD K "__init__" qual (defArgs st) (defBody st) (defScope st) dvs kws fI fd) (S : FnScope ["self", f] ["self", f] (defScope st)) (hb : defBody st = [.Assign [.Attribute (.Name "self" p1) f p2] (.Name f p3) p4])
    (l1 : slC ["self", f] (defScope st) 0 "self" = true) (l2 : slC ["self", f] (defScope st) 1 f = true) (o : OexC K C) (no : PySem.W.findIn K (.ref C) f = some none) : FnOk P w K mg base CX0 1 fI fd ["self", f] (spIni1 C f) := by
  refine F.ok S (fun vs H Q E ⟨a, x, e, _⟩ => by rw [e]; rfl) (fun cdv A outer s H vs Q E hr ⟨a, x, e, h1, h2⟩ => ?_)
  subst e
  refine ⟨tOst K f (tVar 0) (tVar 1), ?_, ?_⟩
  · rw [hb]
    obtain ⟨a1, a2, a3, a4⟩ := slC_ok l1
    obtain ⟨b1, b2, b3, b4⟩ := slC_ok l2
    exact pss_one (ps_ost (pe_var (i := 0) a1 a2 a3 a4) (pe_var (i := 1) b1 b2 b3 b4))
  · exact ⟨_, rfl, _, rfl, a, C, rfl, o, no, Or.inl ⟨h1, fun dx k1 k2 => h2 dx k1 k2⟩⟩
/-! try -/
/-- nothing may be raised -/
abbrev WN : WX := fun _ _ _ _ => False
def sPick : List (List (Str × Bool) × SF) → Str → Option (Option SF)
  | [], _ => some none
  | (t, u) :: r, c => match t.lookup c with
    | none => none
    | some true => some (some u)
    | some false => sPick r c
def sTry (t : SF) (l : List (List (Str × Bool) × SF)) : SF := fun Γ S => match t Γ S with
  | .ex c fs Γ1 S1 => match sPick l c with
    | none => .bad
    | some none => .ex c fs Γ1 S1
    | some (some u) => match u Γ1 S1 with
      | .ex _ _ _ _ => .bad
      | r => r
  | r => r
/-- the clauses: the classes that each one knows -/
inductive Hds (X : Cx) : List ExceptHandler → List (List (Str × Bool) × SF) → Prop
  | nil : Hds X [] []
  | cons {x : Str} {C : Addr} {tbl : List (Str × Bool)} {t : SF} {b₀ : Stmt} {suite : List Stmt} {np pos' : Pos} {hds : List ExceptHandler} {l : List (List (Str × Bool) × SF)} (hg : Gl X x) (hdb : (x == ("__debug__" : Str)) = false) (hm : X.mg x = some (.ref C))
      (ht : ∀ c b cls, tbl.lookup c = some b → X.mg c = some cls → PySem.W.exmOne X.K cls (.ref C) = some b)
      (hs : ∀ a oe pn, Ss (X.suite a ((a, oe) :: pn)) WN (b₀ :: suite) t) (r : Hds X hds l) :
      Hds X (.ExceptHandler (some (.Name x np)) none (b₀ :: suite) pos' :: hds) ((tbl, t) :: l)
theorem Hds.ok {hds : List ExceptHandler} {l : List (List (Str × Bool) × SF)} (h : Hds X hds l) : ∃ l', HdsOk X hds l' ∧ ∀ (c : Str) (fs : List (Str × PV)) (Γ : Gam) (S : Sto) (D : Ends) (H : Hp) (g : G) (σ : L2.St) (cls : Value) (d : Option Addr),
    Rel X H g S → RG X H g S.length Γ σ → RX X H g S.length c fs cls d → (match sPick l c with
      | none => False
      | some none => W cls d σ H
      | some (some u) => OKs X WN D H g S (u Γ S)) → wMany X.K W D l' cls d σ H := by
  induction h with
  | nil => exact ⟨[], .nil, fun c fs Γ S D H g σ cls d rel rg rx k => k⟩
  | cons hg hdb hm ht hs r ih =>
    rename_i x C tbl t b₀ suite np pos' hds l
    obtain ⟨l', h1, h2⟩ := ih
    refine ⟨(.ref C, fun a cls d => liftS X WN t) :: l', .cons ⟨hg, hdb, Or.inl hm⟩ (fun a oe cls d pn _ _ => hs a oe pn) h1, fun c fs Γ S D H g σ cls d rel rg rx k => ?_⟩
    unfold sPick at k
    cases e : tbl.lookup c with
    | none => rw [e] at k; exact k.elim
    | some b =>
      rw [e] at k
      refine ⟨b, ht c b cls e rx.1, fun hb a ha => ?_, fun hb => ?_⟩
      · subst hb; exact ⟨g, Γ, S, rel, rg, k⟩
      · subst hb; exact h2 c fs Γ S D H g σ cls d rel rg rx k
theorem Body.tr {N : List Str} {sc : Scope} {k : Nat} (b : Body X W N sc k) {W' : WX} {pn : List (Addr × Obj)} {xe : Value → Shared → Prop} (tk : Takes (X.tr pn xe) W') (po : PassesOwn (model X.prog X.w) X.A X.env xe) : Body (X.tr pn xe) W' N sc k :=
  ⟨b.hN, b.sc, b.calm, b.fn, b.room, tk, po, b.hs, b.hf⟩
theorem Body.try {N : List Str} {sc : Scope} {k : Nat} {body : List Stmt} {h₀ : ExceptHandler} {hds : List ExceptHandler} {t : SF} {l : List (List (Str × Bool) × SF)} {pos : Pos} (b : Body X W N sc k)
    (hb : ∀ (W' : WX) (pn : List (Addr × Obj)) (xe : Value → Shared → Prop), Body (X.tr pn xe) W' N sc k → Ss (X.tr pn xe) W' body t) (hh : Hds X (h₀ :: hds) l) : St X W (.Try body (h₀ :: hds) [] [] pos) (sTry t l) := by
  obtain ⟨l', h1, h2⟩ := hh.ok (W := W)
  refine ps_imp (ps_try_many (tb := fun W' => liftS X W' t) b.hs b.hf b.tk (fun W' pn xe tk po => hb W' pn xe (b.tr tk po)) h1) fun D σ H ⟨g, Γ, S, rel, rg, ok⟩ => ⟨g, Γ, S, rel, rg, ?_⟩
  unfold sTry at ok
  cases e : t Γ S with
  | nx Γ1 S1 => rw [e] at ok; exact ok
  | bk Γ1 S1 => rw [e] at ok; exact ok
  | ct Γ1 S1 => rw [e] at ok; exact ok
  | rt v S1 => rw [e] at ok; exact ok
  | bad => rw [e] at ok; exact ok
  | ex c fs Γ1 S1 =>
    rw [e] at ok
    dsimp only at ok
    intro g' H' σ' cls d ee rg' rx
    refine h2 c fs Γ1 S1 D H' g' σ' cls d ee.rel rg' rx ?_
    revert ok
    cases sPick l c with
    | none => exact fun z => z
    | some o => cases o with
      | none => exact fun z => z g' H' σ' cls d ee rg' rx
      | some u =>
        dsimp only
        intro ok
        have ok' : OKs X W D H' g' S1 (match u Γ1 S1 with | .ex _ _ _ _ => RS.bad | r => r) := OKs.cont ee ok
        revert ok'
        cases u Γ1 S1 <;> first | exact fun z => z | exact fun z => False.elim z
/-- name = e, in an except suite -/
theorem Body.suSet {N : List Str} {sc : Scope} {k : Nat} (b : Body X W N sc k) (nd : N.Nodup) (i : Nat) (x : Str) {e : Expr} {te : EF} {pos pos' : Pos} (h : slT N sc i x = true) {a : Addr} {pn : List (Addr × Obj)} (he : E (X.suite a pn) WN e te)
    (hs : swapsWith e (some (.Name x pos')) pos.line X.env = pure false := by rfl) : St (X.suite a pn) WN (.Assign [.Name x pos'] e pos) (sSet i te) := by
  have b1 := b.hN
  have b2 := b.sc
  subst b1 b2
  obtain ⟨h1, h2⟩ := slT_ok h
  exact St.set (X := X.suite a pn) (fun he => ps_set nd h1 h2 he hs (.inl (b.fn x))) he
end Pv
namespace Pv
open PySem PySem.Spec PyProof.Rows L2
/-! what the head says of exception classes -/
def excB (K : PySem.W.Frag) (x : Str) : Bool := He.Fa.ok K (.exc x) && He.Fa.ok K (.glo x)
theorem excB_ok {K : PySem.W.Frag} {h : Heap} {mg : Str → Option Value} {x : Str} (Y : K.In h) (G : h.Ns mainGlobals mg) (c : excB K x = true) : ExcC K mg x (He.ga K x) := by
  obtain ⟨c1, c2⟩ := He.ba c
  obtain ⟨e1, e2, e3, e4⟩ := He.exc_ok c1
  exact ⟨He.glo_ok Y G c2, e1, e2, e3, e4⟩
/-- the clause «except y»: what it says of errors of the named classes -/
def ExmT (K : PySem.W.Frag) (mg : Str → Option Value) (y : Str) (tbl : List (Str × Bool)) : Prop := mg y = some (.ref (He.ga K y)) ∧ ∀ c b cls, tbl.lookup c = some b → mg c = some cls → PySem.W.exmOne K cls (.ref (He.ga K y)) = some b
def exmB (K : PySem.W.Frag) (y : Str) (tbl : List (Str × Bool)) : Bool := He.Fa.ok K (.glo y) && tbl.all fun p => He.Fa.ok K (.exm p.1 y p.2) && He.Fa.ok K (.glo p.1)
theorem exmB_ok {K : PySem.W.Frag} {h : Heap} {mg : Str → Option Value} {y : Str} {tbl : List (Str × Bool)} (Y : K.In h) (G : h.Ns mainGlobals mg) (c : exmB K y tbl = true) : ExmT K mg y tbl := by
  obtain ⟨c1, c2⟩ := He.ba c
  refine ⟨He.glo_ok Y G c1, fun x b cls e m => ?_⟩
  have hm : (x, b) ∈ tbl := by
    clear c c2
    induction tbl with
    | nil => cases e
    | cons q r ih =>
      obtain ⟨q1, q2⟩ := q
      rw [List.lookup_cons] at e
      split at e
      · rename_i z
        cases e
        rw [eq_of_beq z]
        exact List.mem_cons_self
      · exact List.mem_cons_of_mem _ (ih e)
  obtain ⟨z1, z2⟩ := He.ba (List.all_eq_true.mp c2 _ hm)
  have := He.glo_ok Y G z2
  rw [this] at m
  cases m
  exact He.exm_ok z1
/-- an error class with its own __init__ over one field f, which the class itself doesn't name -/
def oexO (C : Addr) (o : Option Obj) : Bool := match o with
  | some ⟨.type "type", _, .cls cd, sl⟩ => (match cd.mro, sl.toList with
    | .ref C' :: bm, [_, _, _, _, some (.builtin n), _] => decide (C' = C) && (decide (n = "ValueError.__new__") && (cd.hasDict && (!cd.hasDel && PySem.HandSPX.refsVE bm)))
    | _, _ => false)
  | _ => false
def oexB (K : PySem.W.Frag) (x f : Str) : Bool := oexO (He.ga K x) (K.lookup (He.ga K x)) && (He.Fa.ok K (.glo x) && (He.Fa.ok K (.noat x f) && (He.Fa.ok K (.meth x "__init__") && (PySem.W.keepIn K (.ref (He.ga K x)) &&
  (decide (PySem.W.findIn K (.ref (He.ga K x)) "__setattr__" = some (some (.builtin "object.__setattr__"))) && (decide (PySem.W.subIn K (.ref (He.ga K x)) (.type "BaseException") = some true) && (decide (PySem.W.typeIn K (.ref (He.ga K x)) = some (.type "type")) && decide (PySem.W.typeIn K (.ref (He.ma K (He.ga K x) "__init__")) = some (.type "function")))))))))
structure OexF (K : PySem.W.Frag) (mg : Str → Option Value) (x f : Str) : Prop where
  g : mg x = some (.ref (He.ga K x))
  o : OexC K (He.ga K x)
  no : PySem.W.findIn K (.ref (He.ga K x)) f = some none
  i : PySem.W.findIn K (.ref (He.ga K x)) "__init__" = some (some (.ref (He.ma K (He.ga K x) "__init__")))
  t : PySem.W.typeIn K (.ref (He.ma K (He.ga K x) "__init__")) = some (.type "function")
theorem oexB_ok {K : PySem.W.Frag} {h : Heap} {mg : Str → Option Value} {x f : Str} (Y : K.In h) (G : h.Ns mainGlobals mg) (c : oexB K x f = true) : OexF K mg x f := by
  obtain ⟨c1, c⟩ := He.ba c
  obtain ⟨c2, c⟩ := He.ba c
  obtain ⟨c3, c⟩ := He.ba c
  obtain ⟨c4, c⟩ := He.ba c
  obtain ⟨c5, c⟩ := He.ba c
  obtain ⟨c6, c⟩ := He.ba c
  obtain ⟨c7, c⟩ := He.ba c
  obtain ⟨c8, c9⟩ := He.ba c
  refine ⟨He.glo_ok Y G c2, ⟨?_, of_decide_eq_true c6, of_decide_eq_true c7, of_decide_eq_true c8, c5⟩, He.noat_ok c3, (He.meth_ok c4).1, of_decide_eq_true c9⟩
  unfold oexO at c1
  split at c1
  · rename_i dd cd sl ho
    split at c1
    · rename_i C' bm k0 k1 k2 k3 n k5 hm hs
      simp only [Bool.and_eq_true, decide_eq_true_eq, Bool.not_eq_true'] at c1
      obtain ⟨hc, hn, hd', hdel, ht⟩ := c1
      subst hc hn
      obtain ⟨nm, bs, mro, ns, qn, hd, sn, sub, ab, col, del⟩ := cd
      dsimp only at hm hdel hd'
      subst hm hdel hd'
      have hsl : sl = #[k0, k1, k2, k3, some (.builtin "ValueError.__new__"), k5] := by
        obtain ⟨l⟩ := sl
        simp only at hs
        rw [hs]
      subst hsl
      exact ⟨nm, qn, ns, bs, bm, sn, sub, ab, col, dd, k0, k1, k2, k3, k5, ho, ht⟩
    · cases c1
  · cases c1
/-- the whole of it, with the def __init__ -/
theorem OexF.ok {P : Program} {w : World} {K : PySem.W.Frag} {mg : Str → Option Value} {base : Heap} {x f qual : Str} (T : OexF K mg x f) {st : Stmt} {dvs : List V} {kws : List (Str × V)} {fd : FuncData} {p1 p2 p3 p4 : Pos}
    (F : FunD K "__init__" qual (defArgs st) (defBody st) (defScope st) dvs kws (He.ma K (He.ga K x) "__init__") fd) (bn : Binds K fd ["self", f] []) (S : FnScope ["self", f] ["self", f] (defScope st)) (hb : defBody st = [.Assign [.Attribute (.Name "self" p1) f p2] (.Name f p3) p4])
    (l1 : slC ["self", f] (defScope st) 0 "self" = true) (l2 : slC ["self", f] (defScope st) 1 f = true) : ExcI P w K mg base x f (He.ga K x) :=
  ⟨T.g, T.o, _, fd, ["self", f], T.i, T.t, ini1_ok (p1 := p1) (p2 := p2) (p3 := p3) (p4 := p4) (p5 := p1) (p6 := p1) F S hb l1 l2 T.o T.no, bn⟩
end Pv
namespace Pv
open PySem
/-- the j-th row of a class -/
def clsS (s : Stmt) (j : Nat) : Stmt := match s with
  | .ClassDef (body := b) .. => b.getD j (.Pass ⟨0, 0, 0, 0⟩)
  | _ => .Pass ⟨0, 0, 0, 0⟩
end Pv

namespace Pv
open PySem PySem.Spec PyProof.Rows L2
/-! Taking a list apart; slices; o[i] op= e. -/
variable {X : Cx} {W : WX} {K : PySem.W.Frag} {mg : Str → Option Value}
/-- a, b, .. = a tuple or a list -/
def gU (is : List Nat) : GF := fun p Γ S => match deref S p with
  | some (.tup, xs) => gNs is xs Γ S
  | some (.lst, xs) => gNs is xs Γ S
  | _ => .bad
theorem Tg.un {es : List Expr} {pos : Pos} {is : List Nat} {k n : Nat} (hc : X.calm = true) (h : PGs X es (liftGs X W (gNs is))) (hi : is.length = n := by rfl) (hn : (assignEach es X.env).length = n := by rfl) (hst : (assignEach es X.env).findIdx? (·.1) = none := by rfl) :
    Tg X W (.Tuple es k pos) (gU is) := by
  refine ⟨fun pins s σ H v u Q I r hw => ?_⟩
  obtain ⟨g, Γ, S, p, rel, rg, rv, ok⟩ := hw
  unfold gU at ok
  have hlen : ∀ {xs : List PV}, OKw X W σ H g S (gNs is xs Γ S) (fun Γ' S' g' H' => ∀ σ', RG X H' g' S'.length Γ' σ' → Q σ' H') → xs.length = is.length := fun {xs} ok => by
    rcases gNs_ok is xs Γ S with ⟨Γ', q⟩ | q
    · exact gNs_len ⟨Γ', S, q⟩
    · rw [q] at ok; exact ok.elim
  split at ok
  · rename_i xs e
    obtain ⟨a, vs, rfl, h2, h3⟩ := deref_ok rel rv e
    exact (pg_tup hc h hn hst).run pins s σ H _ u Q I r ⟨a, vs, rfl, h3.tup, by rw [← h2.len, hlen ok, hi], g, Γ, S, xs, rel, rg, h2, ok⟩
  · rename_i xs e
    obtain ⟨a, vs, rfl, h2, h3⟩ := deref_ok rel rv e
    exact (pg_unl hc h hn hst).run pins s σ H _ u Q I r ⟨a, vs, rfl, h3.lst, by rw [← h2.len, hlen ok, hi], g, Γ, S, xs, rel, rg, h2, ok⟩
  · exact ok.elim
/-! slices -/
abbrev OFn := Gam → Sto → R (Option Int)
def oN : OFn := fun _ S => .ok none S
def oS (t : EF) : OFn := fun Γ S => (t Γ S).bind fun p S1 => match p with
  | .int i => .ok (some i) S1
  | _ => .bad
def liftO (X : Cx) (W : WX) (t : OFn) : TO := fun σ H Q => ∃ g Γ S, Rel X H g S ∧ RG X H g S.length Γ σ ∧ OKw X W σ H g S (t Γ S) fun o _ _ H' => Q o H'
def Po (X : Cx) (W : WX) (e : Option Expr) (t : OFn) : Prop := PO X e (liftO X W t)
theorem po_imp {e : Option Expr} {t t' : TO} (h : PO X e t) (k : ∀ σ H Q, t' σ H Q → t σ H Q) : PO X e t' := ⟨fun pins s σ H Q I q => h.run pins s σ H Q I (k σ H Q q)⟩
theorem Po.none : Po X W none oN := po_imp po_none fun σ H Q ⟨g, Γ, S, rel, rg, ok⟩ => OKw.ok rel ok
theorem Po.some {e : Expr} {t : EF} (h : E X W e t) : Po X W (some e) (oS t) := po_imp (po_some h) fun σ H Q ⟨g, Γ, S, rel, rg, ok⟩ => by
  refine ⟨g, Γ, S, rel, rg, OKw.mono (OKw.bind ok) fun p S1 g1 H1 _ e1 h1 x rx => ?_⟩
  split at h1
  · exact ⟨_, rx.int_inv, OKw.ok e1.rel h1⟩
  · exact h1.elim
def cutP (xs : List PV) (lo hi : Option Int) : List PV := (xs.drop (HT.sIx xs.length 0 lo)).take (HT.sIx xs.length xs.length hi - HT.sIx xs.length 0 lo)
theorem RVs.cut {Y : Kx} {H : Hp} {g : G} {L : Nat} {ps : List PV} {vs : List V} {lo hi : Option Int} (h : RVs Y H g L ps vs) : RVs Y H g L (cutP ps lo hi) (cutV vs lo hi) := by
  unfold cutP cutV
  rw [h.len]
  exact (h.drop _).take _
def slF (mu : Bool) (p : PV) (lo hi : Option Int) (S : Sto) : Option (PV × Sto) := match p with
  | .str z => if z.length ≤ sizeLine then some (.str (cutS z lo hi), S) else none
  | p => match deref S p with
    | some (.lst, xs) => some (newP mu .lst (cutP xs lo hi) S)
    | some (.tup, xs) => if HT.sIx xs.length 0 lo = 0 ∧ HT.sIx xs.length xs.length hi = xs.length then some (p, S) else some (.con .own .tup (cutP xs lo hi), S)
    | _ => none
def eSl (mu : Bool) (t : EF) (lo hi : OFn) : EF := fun Γ S => (t Γ S).bind fun p S1 => (lo Γ S1).bind fun l S2 => (hi Γ S2).bind fun u S3 => R.of (slF mu p l u S3)
def rSlAny (K : PySem.W.Frag) (x : V) (lo hi : Option Int) (H : Hp) (Q : VK) : Prop := rSlS x lo hi H Q ∨ rSlL K x lo hi H Q ∨ rSlA K x lo hi H Q
theorem sl_any : SlR X (rSlAny X.K) := SlR.or sl_str (SlR.or sl_list sl_tupA)
theorem E.sl (mu : Bool) {e : Expr} {lo hi : Option Expr} {t : EF} {tl th : OFn} {pos p2 : Pos} (he : E X W e t) (hl : Po X W lo tl) (hh : Po X W hi th) : E X W (.Subscript e (.Slice lo hi none p2) pos) (eSl mu t tl th) :=
  pe_imp (pe_slice sl_any he hl hh) fun σ H Q ⟨g, Γ, S, rel, rg, ok⟩ => by
    refine ⟨g, Γ, S, rel, rg, OKw.mono (OKw.bind ok) fun p S1 g1 H1 _ e1 h1 x rx => ?_⟩
    refine ⟨g1, Γ, S1, e1.rel, rg.up rel e1, OKw.mono (OKw.bind h1) fun l S2 g2 H2 _ e2 h2 => ?_⟩
    refine ⟨g2, Γ, S2, e2.rel, (rg.up rel e1).up e1.rel e2, OKw.mono (OKw.bind h2) fun u S3 g3 H3 _ e3 h3 => ?_⟩
    have rx3 := RV.up e2.rel e3 _ _ (RV.up e1.rel e2 _ _ rx)
    cases hw : slF mu p l u S3 with
    | none => rw [hw] at h3; exact h3.elim
    | some z =>
      obtain ⟨w, S4⟩ := z
      rw [hw] at h3
      unfold slF at hw
      split at hw
      · split at hw
        · rename_i hz
          cases hw
          exact Or.inl ⟨_, rx3.str_inv, hz, h3 g3 H3 (Ext.refl e3.rel) _ RV.str⟩
        · cases hw
      · split at hw
        · rename_i xs e
          obtain ⟨a, vs, rfl, k2, k3⟩ := deref_ok e3.rel rx3 e
          refine Or.inr (Or.inl ⟨a, vs, rfl, k3.lst, fun q hq => ?_⟩)
          obtain ⟨g4, n1, n2⟩ := new_ok (m := mu) (k := .lst) e3.rel hq (show HOof X.mg .lst _ _ from rfl) (by decide) (RVs.cut (lo := l) (hi := u) k2)
          simp only [Option.some.injEq] at hw
          rw [hw] at n1 n2
          exact h3 g4 _ n1 _ n2
        · rename_i xs e
          obtain ⟨a, vs, rfl, k2, k3⟩ := deref_ok e3.rel rx3 e
          refine Or.inr (Or.inr ⟨a, vs, rfl, k3.tup, ?_⟩)
          rw [← k2.len]
          split at hw
          · rename_i c
            cases hw
            exact ⟨fun _ => h3 g3 H3 (Ext.refl e3.rel) _ rx3, fun n => absurd c n⟩
          · rename_i c
            cases hw
            refine ⟨fun n => absurd n c, fun _ q hq => ?_⟩
            obtain ⟨n1, n2⟩ := newF_ok (k := .tup) e3.rel hq (show HOof X.mg .tup _ _ from rfl) (RVs.cut (lo := l) (hi := u) k2)
            exact h3 _ _ n1 _ n2
        · cases hw
/-! o[i] op= e -/
theorem get_list : PGet X (rIxL X.K) := by
  intro pins s σ H o i ov iv Q I rx ry h
  obtain ⟨p, xs, k, z, rfl, rfl, hq, he, q⟩ := h
  cases rx
  obtain ⟨t, rfl⟩ := ry
  obtain ⟨its, r, pl, hz⟩ := I.list hq
  obtain ⟨j, h1, h2, h3, h4, h5⟩ := atI_get he
  obtain ⟨w, ew, rw'⟩ := r.get h2
  have hl := r.length
  have hn := line63
  have fin : EP X pins σ Q w s := ⟨z, H, I, rw', q⟩
  by_cases h0 : 0 ≤ k
  · have hj : k.toNat = j := by
      rw [seqIndex_of h0 h5] at h1
      exact Option.some.inj h1
    exact wpAny_getItem_list pl.isList h0 (by omega) (by rw [hj]; simpa using ew) fin
  · have hj : (k + (its.toArray.size : Int)).toNat = j := by
      rw [seqIndex_neg (by omega) h4] at h1
      rw [List.size_toArray, ← hl]
      exact Option.some.inj h1
    exact wpAny_getItem_list_neg pl.isList (by omega) (by rw [List.size_toArray] <;> omega) (by omega) (by rw [hj]; simpa using ew) fin
def ixLB (S : Sto) (p q : PV) : Option PV := match q with
  | .int i => match deref S p with
    | some (.lst, xs) => L2.atI xs i
    | _ => none
  | _ => none
def sAugS (to ti : EF) (f : OF) (te : EF) : SF := fun Γ S => (to Γ S).st Γ fun o S1 => (ti Γ S1).st Γ fun i S2 => match ixLB S2 o i with
  | some x => (te Γ S2).st Γ fun y S3 => match f x y S3 with
    | some (z, S4) => match setLF o i z S4 with
      | some S5 => .nx Γ S5
      | none => .bad
    | none => .bad
  | none => .bad
theorem St.augS {o i e : Expr} {to ti te : EF} {op : Operator} {r : R2} {f : OF} {tpos pos : Pos} (ho : E X W o to) (hi : E X W i ti) (hp : PIp X op r) (hf : OpF X r f) (he : E X W e te)
    (ha : ∀ ov iv new, augStore i ov iv new = (do holding [new, ov, iv] (setItem ov iv new); release [new, ov, iv] []; pure .next) := by intros; rfl) : St X W (.AugAssign (.Subscript o i tpos) op e pos) (sAugS to ti f te) :=
  ps_imp (ps_augS ho hi get_list he hp set_list ha) fun D σ H ⟨g, Γ, S, rel, rg, ok⟩ => by
    refine ⟨g, Γ, S, rel, rg, OKw.mono (OKs.st rel rg ok) fun ov S1 g1 H1 _ e1 h1 x rx => ?_⟩
    have rg1 := rg.up rel e1
    refine ⟨g1, Γ, S1, e1.rel, rg1, OKw.mono (OKs.st e1.rel rg1 h1) fun iv S2 g2 H2 _ e2 h2 y ry => ?_⟩
    have rg2 := rg1.up e1.rel e2
    have rx2 := RV.up e1.rel e2 _ _ rx
    split at h2
    · rename_i z hz
      unfold ixLB at hz
      split at hz
      · rename_i kk _
        split at hz
        · rename_i xs e
          obtain ⟨a, vs, rfl, k2, k3⟩ := deref_ok e2.rel rx2 e
          obtain ⟨zv, q1, q2⟩ := RVs.atI k2 hz
          refine ⟨a, vs, kk, zv, rfl, ry.int_inv, k3.lst, q1, ?_⟩
          refine ⟨g2, Γ, S2, e2.rel, rg2, OKw.mono (OKs.st e2.rel rg2 h2) fun u S3 g3 H3 _ e3 h3 v rv => ?_⟩
          split at h3
          · rename_i w S4 hw
            refine hf H3 g3 S3 z u zv v w S4 _ e3.rel (RV.up e2.rel e3 _ _ q2) rv hw fun g4 H4 wv e4 r4 => ?_
            split at h3
            · rename_i S5 hs
              refine set_lst H4 g4 S4 ov (.int kk) w (.ref a) y wv S5 _ e4.rel (RV.up e3.rel e4 _ _ (RV.up e2.rel e3 _ _ rx2)) ?_ r4 hs fun g5 H5 e5 => ?_
              · have := RV.up e3.rel e4 _ _ (RV.up e2.rel e3 _ _ ry); exact this
              · exact h3 g5 H5 σ (e4.trans e5) ((((rg2.up e2.rel e3).up e3.rel e4)).up e4.rel e5)
            · exact h3.elim
          · exact h3.elim
        · cases hz
      · cases hz
    · exact h2.elim
end Pv

namespace Pv
open PySem PySem.Spec PyProof.Rows L2
/-! More rules of evaluation; loops by what holds. -/
section
variable {Γ Γ' : Gam} {S S' : Sto} {p q : PV} {ps qs : List PV} {f : OF} {a b : EF} {tr : AF} {t u : SF} {c : BF} {k : Bool} {n i : Nat}
@[simp] theorem gU_tup {is : List Nat} {m : Md} : gU is (.con m .tup ps) Γ S = gNs is ps Γ S := (rfl)
@[simp] theorem gU_lst {is : List Nat} {m : Md} : gU is (.con m .lst ps) Γ S = gNs is ps Γ S := (rfl)
def gUD (is : List Nat) (Γ : Gam) (S : Sto) : Option (Kd × List PV) → R Gam
  | some (.lst, xs) => gNs is xs Γ S
  | some (.tup, xs) => gNs is xs Γ S
  | _ => .bad
theorem gU_ref {is : List Nat} : gU is (.ref n) Γ S = gUD is Γ S S[n]?.join := by
  unfold gU gUD; simp only [deref_ref] <;>
  rcases S[n]?.join with _ | ⟨k', xs'⟩ <;> first | rfl | (cases k' <;> rfl)
@[simp] theorem sTurn_U {is : List Nat} : sTurn (gU is) t p Γ S = (match gU is p Γ S with | .ok Γ1 S1 => t Γ1 S1 | .ex c fs S1 => .ex c fs Γ S1 | .bad => .bad) := by
  unfold sTurn; cases gU is p Γ S <;> rfl
def slK (mu : Bool) (lo hi : OFn) (Γ : Gam) (r : R PV) : R PV := r.bind fun p S1 => (lo Γ S1).bind fun l S2 => (hi Γ S2).bind fun u S3 => R.of (slF mu p l u S3)
@[simp] theorem eSl_eq {mu : Bool} {lo hi : OFn} : eSl mu a lo hi Γ S = slK mu lo hi Γ (a Γ S) := (rfl)
def slK2 (mu : Bool) (p : PV) (hi : OFn) (Γ : Gam) (r : R (Option Int)) : R PV := r.bind fun l S2 => (hi Γ S2).bind fun u S3 => R.of (slF mu p l u S3)
def slK3 (mu : Bool) (p : PV) (l : Option Int) (r : R (Option Int)) : R PV := r.bind fun u S3 => R.of (slF mu p l u S3)
@[simp] theorem slK_ok {mu : Bool} {lo hi : OFn} : slK mu lo hi Γ (.ok p S) = slK2 mu p hi Γ (lo Γ S) := (rfl)
@[simp] theorem slK2_ok {mu : Bool} {hi : OFn} {l : Option Int} : slK2 mu p hi Γ (.ok l S) = slK3 mu p l (hi Γ S) := (rfl)
@[simp] theorem slK3_ok {mu : Bool} {l h : Option Int} : slK3 mu p l (.ok h S) = R.of (slF mu p l h S) := (rfl)
@[simp] theorem oN_eq : oN Γ S = .ok none S := (rfl)
def oK (r : R PV) : R (Option Int) := r.bind fun p S1 => match p with
  | .int i => .ok (some i) S1
  | _ => .bad
@[simp] theorem oS_eq : oS a Γ S = oK (a Γ S) := (rfl)
@[simp] theorem oK_ok {j : Int} : oK (.ok (.int j) S) = .ok (some j) S := (rfl)
@[simp] theorem slF_lst {mu : Bool} {m : Md} {l h : Option Int} : slF mu (.con m .lst ps) l h S = some (newP mu .lst (cutP ps l h) S) := (rfl)
def augG (i : Nat) (f : OF) (a : EF) (Γ : Gam) (S : Sto) : Option (Option PV) → RS
  | some (some p) => augK i f p Γ (a Γ S)
  | _ => .bad
@[simp] theorem sAug_g : sAug i f a Γ S = augG i f a Γ S Γ[i]? := by
  unfold sAug augG
  rcases Γ[i]? with _ | _ | p <;> rfl
@[simp] theorem augG_some : augG i f a Γ S (some (some p)) = augK i f p Γ (a Γ S) := (rfl)
@[simp] theorem sRaise0_eq {x : Str} : sRaise0 x Γ S = .ex x [] Γ S := (rfl)
def rsK (x f : Str) (Γ : Gam) (r : R (List PV)) : RS := r.st Γ fun vs S1 => match vs with
  | [v] => .ex x [(f, v)] Γ S1
  | _ => .bad
@[simp] theorem sRaise1_eq {x f : Str} : sRaise1 x f tr Γ S = rsK x f Γ (tr Γ S) := (rfl)
@[simp] theorem rsK_ok {x f : Str} : rsK x f Γ (.ok [p] S) = .ex x [(f, p)] Γ S := (rfl)
def tryK (l : List (List (Str × Bool) × SF)) : RS → RS
  | .ex c fs Γ1 S1 => match sPick l c with
    | none => .bad
    | some none => .ex c fs Γ1 S1
    | some (some u) => match u Γ1 S1 with
      | .ex _ _ _ _ => .bad
      | r => r
  | r => r
@[simp] theorem sTry_eq {l : List (List (Str × Bool) × SF)} : sTry t l Γ S = tryK l (t Γ S) := by unfold sTry tryK; cases t Γ S <;> rfl
@[simp] theorem tryK_nx {l : List (List (Str × Bool) × SF)} : tryK l (.nx Γ S) = .nx Γ S := (rfl)
@[simp] theorem tryK_rt {l : List (List (Str × Bool) × SF)} : tryK l (.rt p S) = .rt p S := (rfl)
theorem tryK_ex {l : List (List (Str × Bool) × SF)} {c : Str} {fs : List (Str × PV)} (h : sPick l c = some (some u)) : tryK l (.ex c fs Γ S) = (match u Γ S with | .ex _ _ _ _ => .bad | r => r) := by unfold tryK; simp only [h]
@[simp] theorem divmodF_int {x y : Int} : divmodF [.int x, .int y] S = if CDiv x y then some (.con .own .tup [.int (x / y), .int (x % y)], S) else none := (rfl)
@[simp] theorem tupleF_lst {m : Md} : tupleF [.con m .lst ps] S = some (.con .own .tup ps, S) := (rfl)
@[simp] theorem tupleF_tup {m : Md} : tupleF [.con m .tup ps] S = some (.con m .tup ps, S) := (rfl)
@[simp] theorem truB_lst {m : Md} : truB S (.con m .lst ps) = some (!ps.isEmpty) := (rfl)
@[simp] theorem truB_tup {m : Md} : truB S (.con m .tup ps) = some (!ps.isEmpty) := (rfl)
def truD : Option (Kd × List PV) → Option Bool
  | some (.lst, xs) => some (!xs.isEmpty)
  | some (.tup, xs) => some (!xs.isEmpty)
  | _ => none
@[simp] theorem truB_refD : truB S (.ref n) = truD S[n]?.join := by
  unfold truB truD; simp only [deref_ref] <;>
  rcases S[n]?.join with _ | ⟨k', xs'⟩ <;> first | rfl | (cases k' <;> rfl)
@[simp] theorem truD_lst : truD (some (.lst, ps)) = some (!ps.isEmpty) := (rfl)
theorem clean_ints {m : Md} (hm : m ≠ .lent) {k : Kd} (l : List Int) : clean (.con m k (l.map PV.int)) = true := by
  have : cleans (l.map PV.int) = true := by
    induction l with
    | nil => rfl
    | cons a l ih => simp only [List.map_cons, cleans, clean, ih, Bool.and_self]
  cases m <;> simp_all [clean]
end
theorem frz_clean {n : Nat} {S : Sto} {p : PV} (h : clean p = true) : frzV (n + 1) S p = some p := by unfold frzV; rw [if_pos h]
theorem frz_cleans {n : Nat} {S : Sto} : ∀ {xs : List PV}, cleans xs = true → xs.mapM (frzV (n + 1) S) = some xs
  | [], _ => rfl
  | x :: xs, h => by
    simp only [cleans, Bool.and_eq_true] at h
    rw [List.mapM_cons, frz_clean h.1, frz_cleans h.2]; rfl
/-- a changing object handed out -/
theorem resP_ref {S : Sto} {n : Nat} {k : Kd} {xs : List PV} (h : S[n]? = some (some (k, xs))) (c : cleans xs = true) : resP S (.ref n) = .ok (.con .own k xs) := by
  unfold resP frzV
  simp [clean, h, frz_cleans (n := 7) c]
theorem cleans_ints (l : List Int) : cleans (l.map PV.int) = true := by
  induction l with
  | nil => rfl
  | cons a l ih => simp only [List.map_cons, cleans, clean, ih, Bool.and_self]
/-- a while: P m before the turn with m to go, R what is asked of the end -/
theorem whlN_ind {c : BF} {t : SF} (P : Nat → Gam → Sto → Prop) (R : RS → Prop)
    (step : ∀ m Γ S, P m Γ S → (∃ S1, c Γ S = .ok false S1 ∧ R (.nx Γ S1)) ∨ (∃ S1, c Γ S = .ok true S1 ∧ ((∃ m' Γ' S', m' < m ∧ t Γ S1 = .nx Γ' S' ∧ P m' Γ' S') ∨ (∃ v S', t Γ S1 = .rt v S' ∧ R (.rt v S')) ∨ (∃ x fs Γ' S', t Γ S1 = .ex x fs Γ' S' ∧ R (.ex x fs Γ' S'))))) :
    ∀ (n m : Nat) (Γ : Gam) (S : Sto), P m Γ S → m < n → R (whlN c t n Γ S)
  | 0, m, Γ, S, _, h => absurd h (Nat.not_lt_zero _)
  | n + 1, m, Γ, S, p, h => by
    unfold whlN
    rcases step m Γ S p with ⟨S1, e, r⟩ | ⟨S1, e, ⟨m', Γ', S', l, e2, p2⟩ | ⟨v, S', e2, r⟩ | ⟨x, fs, Γ', S', e2, r⟩⟩
    · rw [e]; simpa using r
    · rw [e]; simp only [rst_ok, if_true, e2]; exact whlN_ind P R step n m' Γ' S' p2 (by omega)
    · rw [e]; simpa [e2] using r
    · rw [e]; simpa [e2] using r
theorem sWhl_ind {c : BF} {t : SF} (P : Nat → Gam → Sto → Prop) (R : RS → Prop)
    (step : ∀ m Γ S, P m Γ S → (∃ S1, c Γ S = .ok false S1 ∧ R (.nx Γ S1)) ∨ (∃ S1, c Γ S = .ok true S1 ∧ ((∃ m' Γ' S', m' < m ∧ t Γ S1 = .nx Γ' S' ∧ P m' Γ' S') ∨ (∃ v S', t Γ S1 = .rt v S' ∧ R (.rt v S')) ∨ (∃ x fs Γ' S', t Γ S1 = .ex x fs Γ' S' ∧ R (.ex x fs Γ' S')))))
    {m : Nat} {Γ : Gam} {S : Sto} (h : P m Γ S) (hm : m < 1000000000000) : R (sWhl c t Γ S) := whlN_ind P R step fuel m Γ S h hm
/-- a walk that may end early -/
theorem forL_ind {body : PV → SF} (P : List PV → Gam → Sto → Prop) (R : RS → Prop) (h0 : ∀ Γ S, P [] Γ S → R (.nx Γ S))
    (step : ∀ p ps Γ S, P (p :: ps) Γ S → (∃ Γ' S', (body p Γ S = .nx Γ' S' ∨ body p Γ S = .ct Γ' S') ∧ P ps Γ' S') ∨ (∃ v S', body p Γ S = .rt v S' ∧ R (.rt v S')) ∨ (∃ x fs Γ' S', body p Γ S = .ex x fs Γ' S' ∧ R (.ex x fs Γ' S')) ∨ (∃ Γ' S', body p Γ S = .bk Γ' S' ∧ R (.nx Γ' S'))) :
    ∀ (ps : List PV) (Γ : Gam) (S : Sto), P ps Γ S → R (forL body ps Γ S)
  | [], Γ, S, h => h0 Γ S h
  | p :: ps, Γ, S, h => by
    rw [forL_cons]
    rcases step p ps Γ S h with ⟨Γ', S', e | e, h'⟩ | ⟨v, S', e, r⟩ | ⟨x, fs, Γ', S', e, r⟩ | ⟨Γ', S', e, r⟩
    · rw [e]; simpa using forL_ind P R h0 step ps Γ' S' h'
    · rw [e]; simpa using forL_ind P R h0 step ps Γ' S' h'
    · rw [e]; simpa using r
    · rw [e]; simpa using r
    · rw [e]; simpa using r
end Pv

namespace Pv
open PySem PySem.Spec PyProof.Rows L2
/-! Loops by index, by items. -/
/-- how a turn may end, by what is asked -/
def Trn (r : RS) (N : Gam → Sto → Prop) (R : RS → Prop) : Prop := match r with
  | .nx Γ S => N Γ S
  | .ct Γ S => N Γ S
  | .bk Γ S => R (.nx Γ S)
  | .rt v S => R (.rt v S)
  | .ex c fs Γ S => R (.ex c fs Γ S)
  | .bad => False
theorem Trn.mono {r : RS} {N N' : Gam → Sto → Prop} {R : RS → Prop} (h : Trn r N R) (k : ∀ Γ S, N Γ S → N' Γ S) : Trn r N' R := by
  cases r <;> first | exact k _ _ h | exact h
@[simp] theorem Trn_nx {Γ : Gam} {S : Sto} {N : Gam → Sto → Prop} {R : RS → Prop} : Trn (.nx Γ S) N R = N Γ S := (rfl)
@[simp] theorem Trn_ct {Γ : Gam} {S : Sto} {N : Gam → Sto → Prop} {R : RS → Prop} : Trn (.ct Γ S) N R = N Γ S := (rfl)
@[simp] theorem Trn_bk {Γ : Gam} {S : Sto} {N : Gam → Sto → Prop} {R : RS → Prop} : Trn (.bk Γ S) N R = R (.nx Γ S) := (rfl)
@[simp] theorem Trn_rt {v : PV} {S : Sto} {N : Gam → Sto → Prop} {R : RS → Prop} : Trn (.rt v S) N R = R (.rt v S) := (rfl)
@[simp] theorem Trn_ex {c : Str} {fs : List (Str × PV)} {Γ : Gam} {S : Sto} {N : Gam → Sto → Prop} {R : RS → Prop} : Trn (.ex c fs Γ S) N R = R (.ex c fs Γ S) := (rfl)
theorem forL_trn {body : PV → SF} {p : PV} {ps : List PV} {Γ : Gam} {S : Sto} {R : RS → Prop} (h : Trn (body p Γ S) (fun Γ S => R (forL body ps Γ S)) R) : R (forL body (p :: ps) Γ S) := by
  rw [forL_cons]
  cases e : body p Γ S <;> rw [e] at h <;> simp only [Trn, forK2] at h ⊢ <;> first | exact h | exact h.elim
/-- a walk over xs.map g: P of what is done, what is left -/
theorem forM_ind {α : Type} {body : PV → SF} (g : α → PV) (P : List α → List α → Gam → Sto → Prop) (R : RS → Prop) (step : ∀ d a r Γ S, P d (a :: r) Γ S → Trn (body (g a) Γ S) (P (d ++ [a]) r) R) (h0 : ∀ d Γ S, P d [] Γ S → R (.nx Γ S)) :
    ∀ (r d : List α) (Γ : Gam) (S : Sto), P d r Γ S → R (forL body (r.map g) Γ S)
  | [], d, Γ, S, h => h0 d Γ S h
  | a :: r, d, Γ, S, h => by
    rw [List.map_cons]
    exact forL_trn ((step d a r Γ S h).mono fun Γ' S' h' => forM_ind g P R step h0 r (d ++ [a]) Γ' S' h')
theorem intsF_succ {lo : Int} {n : Nat} : intsF lo (n + 1) = .int lo :: intsF (lo + 1) n := by
  unfold intsF
  rw [List.range_succ_eq_map, List.map_cons, List.map_map]
  congr 1
  · simp
  · apply List.map_congr_left
    intro i _
    simp only [Function.comp]
    congr 1
    omega
theorem forR_aux {body : PV → SF} (P : Nat → Gam → Sto → Prop) (R : RS → Prop) (n : Nat) (step : ∀ i Γ S, i < n → P i Γ S → Trn (body (.int i) Γ S) (P (i + 1)) R) (h0 : ∀ Γ S, P n Γ S → R (.nx Γ S)) :
    ∀ (m i : Nat) (Γ : Gam) (S : Sto), i + m = n → P i Γ S → R (forL body (intsF i m) Γ S)
  | 0, i, Γ, S, e, h => by
    have : i = n := by omega
    subst this
    exact h0 Γ S h
  | m + 1, i, Γ, S, e, h => by
    rw [intsF_succ]
    refine forL_trn ((step i Γ S (by omega) h).mono fun Γ' S' h' => ?_)
    have := forR_aux P R n step h0 m (i + 1) Γ' S' (by omega) h'
    simpa using this
/-- a walk over range(n): P i before the turn i -/
theorem forR_ind {body : PV → SF} (P : Nat → Gam → Sto → Prop) (R : RS → Prop) {n : Nat} (step : ∀ i Γ S, i < n → P i Γ S → Trn (body (.int i) Γ S) (P (i + 1)) R) (h0 : ∀ Γ S, P n Γ S → R (.nx Γ S)) {Γ : Gam} {S : Sto} (h : P 0 Γ S) : R (forL body (intsF 0 n) Γ S) :=
  forR_aux P R n step h0 n 0 Γ S (by omega) h
/-- a while: P m before the turn, with m to go -/
theorem whl_ind {c : BF} {t : SF} (P : Nat → Gam → Sto → Prop) (R : RS → Prop)
    (step : ∀ m Γ S, P m Γ S → (∃ S1, c Γ S = .ok false S1 ∧ R (.nx Γ S1)) ∨ (∃ S1, c Γ S = .ok true S1 ∧ Trn (t Γ S1) (fun Γ' S' => ∃ m', m' < m ∧ P m' Γ' S') R)) :
    ∀ (n m : Nat) (Γ : Gam) (S : Sto), P m Γ S → m < n → R (whlN c t n Γ S)
  | 0, m, Γ, S, _, h => absurd h (Nat.not_lt_zero _)
  | n + 1, m, Γ, S, p, h => by
    unfold whlN
    rcases step m Γ S p with ⟨S1, e, r⟩ | ⟨S1, e, h2⟩
    · rw [e]; simpa using r
    · rw [e]
      simp only [rst_ok, if_true]
      cases e2 : t Γ S1 <;> rw [e2] at h2 <;> simp only [Trn] at h2
      · obtain ⟨m', l, p'⟩ := h2; exact whl_ind P R step n m' _ _ p' (by omega)
      · exact h2
      · exact h2
      · obtain ⟨m', l, p'⟩ := h2; exact whl_ind P R step n m' _ _ p' (by omega)
      · exact h2
theorem sWhl_ind2 {c : BF} {t : SF} (P : Nat → Gam → Sto → Prop) (R : RS → Prop)
    (step : ∀ m Γ S, P m Γ S → (∃ S1, c Γ S = .ok false S1 ∧ R (.nx Γ S1)) ∨ (∃ S1, c Γ S = .ok true S1 ∧ Trn (t Γ S1) (fun Γ' S' => ∃ m', m' < m ∧ P m' Γ' S') R))
    {m : Nat} {Γ : Gam} {S : Sto} (h : P m Γ S) (hm : m < 1000000000000) : R (sWhl c t Γ S) := whl_ind P R step fuel m Γ S h hm
/-! isinstance of built-in types -/
@[simp] theorem isi_non_int {S : Sto}  : isiF [.non, .ty "int"] S = some (.bl false, S) := by
  show (if kitB "NoneType" "int" = some (isiB "NoneType" "int") then some (PV.bl (isiB "NoneType" "int"), S) else none) = _
  rw [if_pos (by decide)]; rfl
@[simp] theorem isi_non_bool {S : Sto}  : isiF [.non, .ty "bool"] S = some (.bl false, S) := by
  show (if kitB "NoneType" "bool" = some (isiB "NoneType" "bool") then some (PV.bl (isiB "NoneType" "bool"), S) else none) = _
  rw [if_pos (by decide)]; rfl
@[simp] theorem isi_non_str {S : Sto}  : isiF [.non, .ty "str"] S = some (.bl false, S) := by
  show (if kitB "NoneType" "str" = some (isiB "NoneType" "str") then some (PV.bl (isiB "NoneType" "str"), S) else none) = _
  rw [if_pos (by decide)]; rfl
@[simp] theorem isi_non_tuple {S : Sto}  : isiF [.non, .ty "tuple"] S = some (.bl false, S) := by
  show (if kitB "NoneType" "tuple" = some (isiB "NoneType" "tuple") then some (PV.bl (isiB "NoneType" "tuple"), S) else none) = _
  rw [if_pos (by decide)]; rfl
@[simp] theorem isi_non_list {S : Sto}  : isiF [.non, .ty "list"] S = some (.bl false, S) := by
  show (if kitB "NoneType" "list" = some (isiB "NoneType" "list") then some (PV.bl (isiB "NoneType" "list"), S) else none) = _
  rw [if_pos (by decide)]; rfl
@[simp] theorem isi_bl_int {S : Sto} {k : Bool} : isiF [.bl k, .ty "int"] S = some (.bl true, S) := by
  show (if kitB "bool" "int" = some (isiB "bool" "int") then some (PV.bl (isiB "bool" "int"), S) else none) = _
  rw [if_pos (by decide)]; rfl
@[simp] theorem isi_bl_bool {S : Sto} {k : Bool} : isiF [.bl k, .ty "bool"] S = some (.bl true, S) := by
  show (if kitB "bool" "bool" = some (isiB "bool" "bool") then some (PV.bl (isiB "bool" "bool"), S) else none) = _
  rw [if_pos (by decide)]; rfl
@[simp] theorem isi_bl_str {S : Sto} {k : Bool} : isiF [.bl k, .ty "str"] S = some (.bl false, S) := by
  show (if kitB "bool" "str" = some (isiB "bool" "str") then some (PV.bl (isiB "bool" "str"), S) else none) = _
  rw [if_pos (by decide)]; rfl
@[simp] theorem isi_bl_tuple {S : Sto} {k : Bool} : isiF [.bl k, .ty "tuple"] S = some (.bl false, S) := by
  show (if kitB "bool" "tuple" = some (isiB "bool" "tuple") then some (PV.bl (isiB "bool" "tuple"), S) else none) = _
  rw [if_pos (by decide)]; rfl
@[simp] theorem isi_bl_list {S : Sto} {k : Bool} : isiF [.bl k, .ty "list"] S = some (.bl false, S) := by
  show (if kitB "bool" "list" = some (isiB "bool" "list") then some (PV.bl (isiB "bool" "list"), S) else none) = _
  rw [if_pos (by decide)]; rfl
@[simp] theorem isi_int_int {S : Sto} {k : Int} : isiF [.int k, .ty "int"] S = some (.bl true, S) := by
  show (if kitB "int" "int" = some (isiB "int" "int") then some (PV.bl (isiB "int" "int"), S) else none) = _
  rw [if_pos (by decide)]; rfl
@[simp] theorem isi_int_bool {S : Sto} {k : Int} : isiF [.int k, .ty "bool"] S = some (.bl false, S) := by
  show (if kitB "int" "bool" = some (isiB "int" "bool") then some (PV.bl (isiB "int" "bool"), S) else none) = _
  rw [if_pos (by decide)]; rfl
@[simp] theorem isi_int_str {S : Sto} {k : Int} : isiF [.int k, .ty "str"] S = some (.bl false, S) := by
  show (if kitB "int" "str" = some (isiB "int" "str") then some (PV.bl (isiB "int" "str"), S) else none) = _
  rw [if_pos (by decide)]; rfl
@[simp] theorem isi_int_tuple {S : Sto} {k : Int} : isiF [.int k, .ty "tuple"] S = some (.bl false, S) := by
  show (if kitB "int" "tuple" = some (isiB "int" "tuple") then some (PV.bl (isiB "int" "tuple"), S) else none) = _
  rw [if_pos (by decide)]; rfl
@[simp] theorem isi_int_list {S : Sto} {k : Int} : isiF [.int k, .ty "list"] S = some (.bl false, S) := by
  show (if kitB "int" "list" = some (isiB "int" "list") then some (PV.bl (isiB "int" "list"), S) else none) = _
  rw [if_pos (by decide)]; rfl
@[simp] theorem isi_str_int {S : Sto} {k : Str} : isiF [.str k, .ty "int"] S = some (.bl false, S) := by
  show (if kitB "str" "int" = some (isiB "str" "int") then some (PV.bl (isiB "str" "int"), S) else none) = _
  rw [if_pos (by decide)]; rfl
@[simp] theorem isi_str_bool {S : Sto} {k : Str} : isiF [.str k, .ty "bool"] S = some (.bl false, S) := by
  show (if kitB "str" "bool" = some (isiB "str" "bool") then some (PV.bl (isiB "str" "bool"), S) else none) = _
  rw [if_pos (by decide)]; rfl
@[simp] theorem isi_str_str {S : Sto} {k : Str} : isiF [.str k, .ty "str"] S = some (.bl true, S) := by
  show (if kitB "str" "str" = some (isiB "str" "str") then some (PV.bl (isiB "str" "str"), S) else none) = _
  rw [if_pos (by decide)]; rfl
@[simp] theorem isi_str_tuple {S : Sto} {k : Str} : isiF [.str k, .ty "tuple"] S = some (.bl false, S) := by
  show (if kitB "str" "tuple" = some (isiB "str" "tuple") then some (PV.bl (isiB "str" "tuple"), S) else none) = _
  rw [if_pos (by decide)]; rfl
@[simp] theorem isi_str_list {S : Sto} {k : Str} : isiF [.str k, .ty "list"] S = some (.bl false, S) := by
  show (if kitB "str" "list" = some (isiB "str" "list") then some (PV.bl (isiB "str" "list"), S) else none) = _
  rw [if_pos (by decide)]; rfl
@[simp] theorem isi_lst_int {S : Sto} {m : Md} {xs : List PV} : isiF [.con m .lst xs, .ty "int"] S = some (.bl false, S) := by
  show (if kitB "list" "int" = some (isiB "list" "int") then some (PV.bl (isiB "list" "int"), S) else none) = _
  rw [if_pos (by decide)]; rfl
@[simp] theorem isi_lst_bool {S : Sto} {m : Md} {xs : List PV} : isiF [.con m .lst xs, .ty "bool"] S = some (.bl false, S) := by
  show (if kitB "list" "bool" = some (isiB "list" "bool") then some (PV.bl (isiB "list" "bool"), S) else none) = _
  rw [if_pos (by decide)]; rfl
@[simp] theorem isi_lst_str {S : Sto} {m : Md} {xs : List PV} : isiF [.con m .lst xs, .ty "str"] S = some (.bl false, S) := by
  show (if kitB "list" "str" = some (isiB "list" "str") then some (PV.bl (isiB "list" "str"), S) else none) = _
  rw [if_pos (by decide)]; rfl
@[simp] theorem isi_lst_tuple {S : Sto} {m : Md} {xs : List PV} : isiF [.con m .lst xs, .ty "tuple"] S = some (.bl false, S) := by
  show (if kitB "list" "tuple" = some (isiB "list" "tuple") then some (PV.bl (isiB "list" "tuple"), S) else none) = _
  rw [if_pos (by decide)]; rfl
@[simp] theorem isi_lst_list {S : Sto} {m : Md} {xs : List PV} : isiF [.con m .lst xs, .ty "list"] S = some (.bl true, S) := by
  show (if kitB "list" "list" = some (isiB "list" "list") then some (PV.bl (isiB "list" "list"), S) else none) = _
  rw [if_pos (by decide)]; rfl
@[simp] theorem isi_tup_int {S : Sto} {m : Md} {xs : List PV} : isiF [.con m .tup xs, .ty "int"] S = some (.bl false, S) := by
  show (if kitB "tuple" "int" = some (isiB "tuple" "int") then some (PV.bl (isiB "tuple" "int"), S) else none) = _
  rw [if_pos (by decide)]; rfl
@[simp] theorem isi_tup_bool {S : Sto} {m : Md} {xs : List PV} : isiF [.con m .tup xs, .ty "bool"] S = some (.bl false, S) := by
  show (if kitB "tuple" "bool" = some (isiB "tuple" "bool") then some (PV.bl (isiB "tuple" "bool"), S) else none) = _
  rw [if_pos (by decide)]; rfl
@[simp] theorem isi_tup_str {S : Sto} {m : Md} {xs : List PV} : isiF [.con m .tup xs, .ty "str"] S = some (.bl false, S) := by
  show (if kitB "tuple" "str" = some (isiB "tuple" "str") then some (PV.bl (isiB "tuple" "str"), S) else none) = _
  rw [if_pos (by decide)]; rfl
@[simp] theorem isi_tup_tuple {S : Sto} {m : Md} {xs : List PV} : isiF [.con m .tup xs, .ty "tuple"] S = some (.bl true, S) := by
  show (if kitB "tuple" "tuple" = some (isiB "tuple" "tuple") then some (PV.bl (isiB "tuple" "tuple"), S) else none) = _
  rw [if_pos (by decide)]; rfl
@[simp] theorem isi_tup_list {S : Sto} {m : Md} {xs : List PV} : isiF [.con m .tup xs, .ty "list"] S = some (.bl false, S) := by
  show (if kitB "tuple" "list" = some (isiB "tuple" "list") then some (PV.bl (isiB "tuple" "list"), S) else none) = _
  rw [if_pos (by decide)]; rfl
end Pv

namespace Pv
open PySem PySem.Spec PyProof.Rows L2
section
variable {X : Cx} {Γ : Gam} {S : Sto}
/-! name += e: ints, texts -/
def addA : OF := fun p q S => match p, q with
  | .int i, .int j => some (.int (i + j), S)
  | .str a, .str b => if a.length + b.length ≤ sizeLine then some (.str (a ++ b), S) else none
  | _, _ => none
def rAddA : R2 := fun x y H Q => rI0 (fun i j => .int (i + j)) x y H Q ∨ rAddS x y H Q
theorem pip_addA : PIp X .Add rAddA := fun pins s σ H x y v u Q I rx ry h => by
  rcases h with ⟨i, j, e1, e2, q⟩ | h
  · exact ip_add pins s σ H x y v u Q I rx ry ⟨i, j, e1, e2, q⟩
  · exact in_addS pins s σ H x y v u Q I rx ry h
theorem opf_addA : OpF X rAddA addA := by
  intro H g S p q x y w S' Q rel rx ry h k
  unfold addA at h
  split at h
  · simp only [Option.some.injEq, Prod.mk.injEq] at h
    obtain ⟨rfl, rfl⟩ := h
    exact Or.inl ⟨_, _, rx.int_inv, ry.int_inv, k g H _ (Ext.refl rel) RV.int⟩
  · split at h
    · simp only [Option.some.injEq, Prod.mk.injEq] at h
      obtain ⟨rfl, rfl⟩ := h
      exact Or.inr ⟨_, _, rx.str_inv, ry.str_inv, by assumption, k g H _ (Ext.refl rel) RV.str⟩
    · cases h
  · cases h
@[simp] theorem addA_int {i j : Int} : addA (.int i) (.int j) S = some (.int (i + j), S) := (rfl)
@[simp] theorem addA_str {a b : Str} : addA (.str a) (.str b) S = if a.length + b.length ≤ sizeLine then some (.str (a ++ b), S) else none := (rfl)
/-! range(i, j) -/
def r2K (r : R (List PV)) : R (Stp × Nat) := r.bind fun ps S1 => match ps with
  | [.int i, .int j] => if -(2 ^ 62) ≤ i ∧ i < 2 ^ 62 ∧ -(2 ^ 62) ≤ j ∧ j < 2 ^ 62 then .ok (stL (intsF i (j - i).toNat), (j - i).toNat + 1) S1 else .bad
  | _ => .bad
@[simp] theorem iR2_eq {tr : AF} : iR2 tr Γ S = r2K (tr Γ S) := (rfl)
theorem r2K_ok {i j : Int} (h : -(2 ^ 62) ≤ i ∧ i < 2 ^ 62 ∧ -(2 ^ 62) ≤ j ∧ j < 2 ^ 62) : r2K (.ok [.int i, .int j] S) = .ok (stL (intsF i (j - i).toNat), (intsF i (j - i).toNat).length + 1) S := by
  rw [intsF_len]
  exact if_pos h
theorem r2K_nat {i n : Nat} (h : i + n < 1000000000000) : r2K (.ok [.int i, .int (i + n : Nat)] S) = .ok (stL (intsF i n), (intsF i n).length + 1) S := by
  rw [r2K_ok ⟨by omega, by omega, by omega, by omega⟩]
  have : (((i + n : Nat) : Int) - i).toNat = n := by omega
  rw [this]
def tupD (S : Sto) : Option (Kd × List PV) → Option (PV × Sto)
  | some (.lst, xs) => some (.con .own .tup xs, S)
  | _ => none
@[simp] theorem tupleF_refD {n : Nat} : tupleF [.ref n] S = tupD S S[n]?.join := by
  unfold tupleF tupD; simp only [deref_ref] <;>
  rcases S[n]?.join with _ | ⟨k', xs'⟩ <;> first | rfl | (cases k' <;> rfl)
@[simp] theorem tupD_lst {ps : List PV} : tupD S (some (.lst, ps)) = some (.con .own .tup ps, S) := (rfl)
/-- it raises so -/
def Rx (r : RS) (c : Str) (fs : List (Str × PV)) : Prop := match r with
  | .ex c' fs' _ _ => c' = c ∧ fs' = fs
  | _ => False
@[simp] theorem Rx_ex {c c' : Str} {fs fs' : List (Str × PV)} : Rx (.ex c' fs' Γ S) c fs = (c' = c ∧ fs' = fs) := (rfl)
theorem Rx.out {r : RS} {c : Str} {fs : List (Str × PV)} (h : Rx r c fs) : ∃ Γ S, r = .ex c fs Γ S := by
  cases r <;> simp [Rx] at h
  obtain ⟨rfl, rfl⟩ := h
  exact ⟨_, _, rfl⟩
end
end Pv

/-! Pv18: several except clauses, some with a name. -/
namespace Pv
open PySem PySem.Spec PyProof.Rows L2
/-- a clause: its class, the slot of its name, its suite -/
abbrev Cls3 := Value × Option Nat × (Addr → Value → Option Addr → TS)
def offE (D : Ends) (i : Nat) : Ends := ⟨fun σ H => D.nx (σ.set i none) H, D.rt, fun σ H => D.bk (σ.set i none) H, fun σ H => D.ct (σ.set i none) H⟩
def runC (D : Ends) (o : Option Nat) (ts : TS) (a : Addr) (σ : L2.St) (H : Hp) : Prop := match o with
  | none => ts D σ H
  | some i => ts (offE D i) (σ.set i (some (.ref a))) H
/-- what the clauses ask, in their order -/
def wSeq (K : PySem.W.Frag) (Wo : WX) (D : Ends) : List Cls3 → WX
  | [] => Wo
  | q :: qs => fun cls d σ H => ∃ b, PySem.W.exmOne K cls q.1 = some b ∧
      (b = true → ∀ a, H a = none → runC D q.2.1 (q.2.2 a cls d) a σ H) ∧
      (b = false → wSeq K Wo D qs cls d σ H)
abbrev SuOk (X : Cx) (suite : List Stmt) (ts : Addr → Value → Option Addr → TS) : Prop :=
  ∀ (a : Addr) (oe : Obj) (cls : Value) (d : Option Addr) (pn : List (Addr × Obj)),
    Zc cls d oe → (∃ vs, oe.data = .fields vs) → PSs (X.suite a ((a, oe) :: pn)) suite (ts a cls d)
inductive ClOk (X : Cx) : List ExceptHandler → List Cls3 → Prop
  | nil : ClOk X [] []
  | plain {x : Str} {c : Value} {ts : Addr → Value → Option Addr → TS} {b : Stmt} {bs : List Stmt} {p1 p2 : Pos}
      {hds : List ExceptHandler} {l : List Cls3} (hc : Names X x c) (su : SuOk X (b :: bs) ts) (r : ClOk X hds l) :
      ClOk X (.ExceptHandler (some (.Name x p1)) none (b :: bs) p2 :: hds) ((c, none, ts) :: l)
  | named {x n : Str} {i : Nat} {c : Value} {ts : Addr → Value → Option Addr → TS} {b : Stmt} {bs : List Stmt} {p1 p2 : Pos}
      {hds : List ExceptHandler} {l : List Cls3} (hN : X.N.Nodup) (hi : X.N[i]? = some n) (hl : X.env.kindOf n = some .local)
      (hc : Names X x c) (su : SuOk X (b :: bs) ts) (r : ClOk X hds l) :
      ClOk X (.ExceptHandler (some (.Name x p1)) (some n) (b :: bs) p2 :: hds) ((c, some i, ts) :: l)
section
variable {X : Cx} {body : List Stmt} {h0 : ExceptHandler} {hds : List ExceptHandler} {l : List Cls3} {pos : Pos} {tb : WX → TS} {Wo : WX}
/-- try, with its clauses one after the other -/
theorem ps_try_seq (est : X.stack = X.env :: X.outer) (efr : X.env.frame = some X.env.locals) (tk : Takes X Wo)
    (hb : ∀ (W : WX) (pn : List (Addr × Obj)) (xe : Value → Shared → Prop),
      Takes (X.tr pn xe) W → PassesOwn (model X.prog X.w) X.A X.env xe → PSs (X.tr pn xe) body (tb W))
    (hh : ClOk X (h0 :: hds) l) : PS X (.Try body (h0 :: hds) [] [] pos) (fun D σ H => tb (wSeq X.K Wo D l) D σ H) := by
  refine ⟨fun pins s σ H D inv hq => ?_⟩
  have okk := inv.ok
  have frames : X.A.frames = some (X.env :: X.outer) := by rw [okk.frames, est]
  refine wpAny_Try_except ?_
  let far : Value → Shared → Prop := fun e s1 => wpAny (model X.prog X.w) X.A (noteFrame e X.env)
    (fun _ s2 => wpAny (model X.prog X.w) X.A (setFlight e none)
      (fun _ s3 => wpAny (model X.prog X.w) X.A (handleBy e X.env (h0 :: hds)) (SP X pins D) X.xe s3) X.xe s2) X.xe s1
  refine wpAny_mono ((hb (wSeq X.K Wo D l) (X.pn ++ pins) far (fun u t0 caught => ?_) PassesOwn.looking).run
    [] s σ H D (inv.toTry _) hq) (fun f t1 fin => ?_) (fun e t1 he => he)
  · obtain ⟨a, B, sI, pins1, σ1, H1, cls, d, rfl, inv1, nb, up, sky, na, os, ag, w⟩ := caught
    have I1 : Inv X pins σ1 H1 sI := inv1.ofTry okk
    have sky1 : Sky B (X.env :: X.outer) a (Zc cls d) X.env.locals t0.heap := by rw [← est]; exact sky
    show wpAny (model X.prog X.w) X.A (noteFrame (.ref a) X.env) _ _ _
    refine Sky.land Zc.steady frames efr sky1 fun h3 fl3 up3 => ?_
    have I3 : Inv X pins σ1 H1 { t0 with heap := h3 } := I1.landed nb fl3.1 (up.trans up3) os ag
    obtain ⟨o3, v3, at3, z3, d3⟩ := fl3.there
    have out : a ∉ frs (X.env :: X.outer) := fun hm => by
      obtain ⟨_, o', e', nf⟩ := fl3.2.2.1.mem hm
      rw [at3] at e'; cases e'
      exact nf _ d3
    have nL : a ≠ X.env.locals := fun z =>
      out (List.mem_filterMap.mpr ⟨X.env, List.mem_cons_self, by rw [efr, z]⟩)
    have nF : a ∉ X.fs := fun hm => by
      obtain ⟨e, he, q⟩ := List.mem_filterMap.mp hm
      exact out (List.mem_filterMap.mpr ⟨e, List.mem_cons_of_mem _ he, q⟩)
    have S3 := I3.suite at3 d3 na nL nF
    have look : PySem.W.Looks (model X.prog X.w) h3 (typeOf (.ref a)) cls := fun A Q E s k q =>
      wpAny_typeOf_ref (k _ _ at3) (by rw [z3.1]; exact q)
    have ask : ∀ {x : Str} {c : Value} {p : Pos} {Q E : Value → Shared → Prop}, Names X x c → Q c { t0 with heap := h3 } →
        wpAny (model X.prog X.w) (X.A.mark (some (.ref a))) (eval (.Name x p) X.env) Q E { t0 with heap := h3 } := fun {x c p Q E} hc q => by
      obtain ⟨hg, hdb, hm | ⟨hm, hv, hnn⟩⟩ := hc
      · exact ld_glob (X := X.suite a ((a, o3) :: (X.pn ++ pins))) S3 hg hm q hdb
      · exact ld_blt (X := X.suite a ((a, o3) :: (X.pn ++ pins))) S3 hg hm hv q hnn hdb
    have all : ∀ {hs : List ExceptHandler} {m : List Cls3}, ClOk X hs m → wSeq X.K Wo D m cls d σ1 H1 →
        wpAny (model X.prog X.w) X.A (handleBy (.ref a) X.env hs) (SP X pins D) X.xe { t0 with heap := h3 } := by
      intro hs m ck
      induction ck with
      | nil =>
        intro w
        refine wpAny_handleBy_nil ?_
        obtain ⟨k1, k2, k3, oe, vs, T, oT, ts', he, hz, hd, q1, q2⟩ := id fl3
        unfold PySem.passOn
        refine wpAny_bind (wpAny_field he hd q1 ?_)
        rw [if_neg (show ¬ ((Value.ref T == Value.none) = true) from by simp)]
        have away : wpAny (model X.prog X.w) X.A (setFlight (.ref a) X.env.frame)
            (fun _ t4 => wpAny (model X.prog X.w) X.A (throw (.ref a) : Sem Flow) (SP X pins D) X.xe t4) X.xe { t0 with heap := h3 } := by
          rw [efr]
          refine HandSPX.setFlight_upZ fl3 fun h4 hh4 up4 => wpAny_throw (tk _ _ ?_)
          exact ⟨a, B, sI, pins, σ1, H1, cls, d, rfl, I1, nb, (up.trans up3).trans up4, .inr (.inr (by rw [est]; exact hh4)), na, os, ag, w⟩
        first
          | exact wpAny_bind (wpAny_pure (wpAny_bind away))
          | exact wpAny_bind away
      | @plain x c ts b bs p1 p2 hs2 m2 hc su r ih =>
        intro w
        obtain ⟨y, hy, yes, no⟩ := w
        refine wpAny_handleBy_cons (codeAny_handlers_test ?_) (by intro q; cases q)
        refine ask hc ((PySem.W.exm_one (M := model X.prog X.w) I3.kIn look hy).here ?_)
        cases y with
        | true =>
          refine codeAny_handlers_suite ?_
          refine HandSPX.lands_againZ fl3 fun h4 fl4 up4 => ?_
          have I4 : Inv X pins σ1 H1 { t0 with heap := h4 } := I1.landed nb fl4.1 ((up.trans up3).trans up4) os ag
          obtain ⟨o4, v4, at4, z4, d4⟩ := fl4.there
          have S4 := I4.suite at4 d4 na nL nF
          refine wpAny_mono ((su a o4 cls d (X.pn ++ pins) z4 ⟨_, d4⟩).run [] _ _ H1 _ S4 (yes rfl a na)) (fun f s6 e6 => ?_) (fun _ _ z => False.elim z)
          cases f with
          | ret u =>
            obtain ⟨v6, σ6, H6, S6, r6, q6⟩ := e6
            exact ⟨_, _, _, S6.unsuite okk, r6, q6⟩
          | _ =>
            obtain ⟨σ6, H6, S6, q6⟩ := e6
            exact ⟨_, _, S6.unsuite okk, q6⟩
        | false =>
          show wpAny _ X.A (handleBy (.ref a) X.env hs2) _ _ _
          exact ih (no rfl)
      | @named x n i c ts b bs p1 p2 hs2 m2 hN hi hl hc su r ih =>
        intro w
        obtain ⟨y, hy, yes, no⟩ := w
        refine wpAny_handleBy_cons (codeAny_handlers_test ?_) (by intro q; cases q)
        refine ask hc ((PySem.W.exm_one (M := model X.prog X.w) I3.kIn look hy).here ?_)
        cases y with
        | true =>
          refine codeAny_handlers_suite_as ?_
          refine HandSPX.lands_againZ fl3 fun h4 fl4 up4 => ?_
          have I4 : Inv X pins σ1 H1 { t0 with heap := h4 } := I1.landed nb fl4.1 ((up.trans up3).trans up4) os ag
          obtain ⟨o4, v4, at4, z4, d4⟩ := fl4.there
          have S4 := I4.suite at4 d4 na nL nF
          refine store_ok (X := X.suite a ((a, o4) :: (X.pn ++ pins))) (v := .ref a) S4 hN hi (.inl hl) rfl (fun s5 S5 => ?_) (.inr hl)
          refine wpAny_mono ((su a o4 cls d (X.pn ++ pins) z4 ⟨_, d4⟩).run [] s5 _ H1 _ S5 (yes rfl a na)) (fun f s6 e6 => ?_) (fun _ _ z => False.elim z)
          have off : ∀ {σ6 : L2.St} {H6 : Hp} {Q : Shared → Prop}, Inv (X.suite a ((a, o4) :: (X.pn ++ pins))) [] σ6 H6 s6 →
              (∀ s7, Inv X pins (σ6.set i none) H6 s7 → Q s7) →
              wpAny (model X.prog X.w) X.A (do bindName X.env n .none; unbindBehindTheSuite X.env n p2) (fun _ s7 => Q s7) X.xe s6 :=
            fun {σ6 H6 Q} S6 hq => gone_ok (S6.unsuite okk) hN hi hl hq
          cases f with
          | ret u =>
            obtain ⟨v6, σ6, H6, S6, r6, q6⟩ := e6
            exact off S6 fun s7 J7 => ⟨_, _, _, J7, r6, q6⟩
          | _ =>
            obtain ⟨σ6, H6, S6, q6⟩ := e6
            exact off S6 fun s7 J7 => ⟨_, _, J7, q6⟩
        | false =>
          show wpAny _ X.A (handleBy (.ref a) X.env hs2) _ _ _
          exact ih (no rfl)
    exact all hh w
  · cases f with
    | next =>
      obtain ⟨σ1, H1, I1, q⟩ := fin
      exact wpAny_execs_nil ⟨σ1, H1, I1.ofTry okk, q⟩
    | ret u =>
      obtain ⟨v, σ1, H1, I1, r, q⟩ := fin
      exact ⟨v, σ1, H1, I1.ofTry okk, r, q⟩
    | _ =>
      obtain ⟨σ1, H1, I1, q⟩ := fin
      exact ⟨σ1, H1, I1.ofTry okk, q⟩
end
end Pv

/-! Pv19: try with several clauses, as functions of data. -/
namespace Pv
open PySem PySem.Spec PyProof.Rows L2
section
variable {X : Cx} {W : WX}
abbrev XF := Str → List (Str × PV) → SF
/-- which clause takes it -/
def xPick : List (List (Str × Bool) × XF) → Str → Option (Option XF)
  | [], _ => some none
  | (t, u) :: r, c => match t.lookup c with
    | none => none
    | some true => some (some u)
    | some false => xPick r c
def noX : RS → RS
  | .ex _ _ _ _ => .bad
  | r => r
def sTryX (t : SF) (l : List (List (Str × Bool) × XF)) : SF := fun Γ S => match t Γ S with
  | .ex c fs Γ1 S1 => match xPick l c with
    | none => .bad
    | some none => .ex c fs Γ1 S1
    | some (some u) => noX (u c fs Γ1 S1)
  | r => r
/-- a suite that does not name the error -/
def xPlain (u : SF) : XF := fun _ _ => u
/-- the name goes -/
def offR (i : Nat) : RS → RS
  | .nx Γ S => .nx (Γ.set i none) S
  | .bk Γ S => .bk (Γ.set i none) S
  | .ct Γ S => .ct (Γ.set i none) S
  | r => r
def xAs (i : Nat) (u : XF) : XF := fun c fs Γ S => if i < Γ.length then offR i (u c fs (Γ.set i none) S) else .bad
/-- a suite whose name i stands for the error a -/
def liftN (X : Cx) (i : Nat) (a : Addr) (cls : Value) (d : Option Addr) (u : XF) : TS := fun D σ H => ∃ g Γ S c fs, Rel X H g S ∧ RG X H g S.length Γ σ ∧ σ[i]? = some (some (.ref a)) ∧ RX X H g S.length c fs cls d ∧ OKs X WN D H g S (u c fs Γ S)
inductive HdX (X : Cx) : List ExceptHandler → List (List (Str × Bool) × XF) → Prop
  | nil : HdX X [] []
  | plain {x : Str} {C : Addr} {tbl : List (Str × Bool)} {t : SF} {b₀ : Stmt} {suite : List Stmt} {np pos' : Pos} {hds : List ExceptHandler} {l : List (List (Str × Bool) × XF)} (hg : Gl X x) (hdb : (x == ("__debug__" : Str)) = false) (hm : X.mg x = some (.ref C))
      (ht : ∀ c b cls, tbl.lookup c = some b → X.mg c = some cls → PySem.W.exmOne X.K cls (.ref C) = some b)
      (hs : ∀ a oe pn, Ss (X.suite a ((a, oe) :: pn)) WN (b₀ :: suite) t) (r : HdX X hds l) :
      HdX X (.ExceptHandler (some (.Name x np)) none (b₀ :: suite) pos' :: hds) ((tbl, xPlain t) :: l)
  | named {x n : Str} {i : Nat} {C : Addr} {tbl : List (Str × Bool)} {u : XF} {b₀ : Stmt} {suite : List Stmt} {np pos' : Pos} {hds : List ExceptHandler} {l : List (List (Str × Bool) × XF)} (hN : X.N.Nodup) (hi : X.N[i]? = some n) (hl : X.env.kindOf n = some .local) (hg : Gl X x) (hdb : (x == ("__debug__" : Str)) = false) (hm : X.mg x = some (.ref C))
      (ht : ∀ c b cls, tbl.lookup c = some b → X.mg c = some cls → PySem.W.exmOne X.K cls (.ref C) = some b)
      (hs : SuOk X (b₀ :: suite) (fun a cls d => liftN X i a cls d u)) (r : HdX X hds l) :
      HdX X (.ExceptHandler (some (.Name x np)) (some n) (b₀ :: suite) pos' :: hds) ((tbl, xAs i u) :: l)
theorem noX_ok {D : Ends} {H : Hp} {g : G} {S : Sto} {r : RS} (h : OKs X W D H g S (noX r)) : OKs X WN D H g S r := by
  revert h
  cases r <;> first | exact fun z => z | exact fun z => False.elim z
theorem HdX.ok {hds : List ExceptHandler} {l : List (List (Str × Bool) × XF)} (h : HdX X hds l) : ∃ l', ClOk X hds l' ∧ ∀ (c : Str) (fs : List (Str × PV)) (Γ : Gam) (S : Sto) (D : Ends) (H : Hp) (g : G) (σ : L2.St) (cls : Value) (d : Option Addr),
    Rel X H g S → RG X H g S.length Γ σ → RX X H g S.length c fs cls d → (match xPick l c with
      | none => False
      | some none => W cls d σ H
      | some (some u) => OKs X WN D H g S (u c fs Γ S)) → wSeq X.K W D l' cls d σ H := by
  induction h with
  | nil => exact ⟨[], .nil, fun c fs Γ S D H g σ cls d rel rg rx k => k⟩
  | plain hg hdb hm ht hs r ih =>
    rename_i x C tbl t b₀ suite np pos' hds l
    obtain ⟨l', h1, h2⟩ := ih
    refine ⟨(.ref C, none, fun a cls d => liftS X WN t) :: l', .plain ⟨hg, hdb, Or.inl hm⟩ (fun a oe cls d pn _ _ => hs a oe pn) h1, fun c fs Γ S D H g σ cls d rel rg rx k => ?_⟩
    unfold xPick at k
    cases e : tbl.lookup c with
    | none => rw [e] at k; exact k.elim
    | some b =>
      rw [e] at k
      refine ⟨b, ht c b cls e rx.1, fun hb a ha => ?_, fun hb => ?_⟩
      · subst hb; exact ⟨g, Γ, S, rel, rg, k⟩
      · subst hb; exact h2 c fs Γ S D H g σ cls d rel rg rx k
  | named hN hi hl hg hdb hm ht hs r ih =>
    rename_i x n i C tbl u b₀ suite np pos' hds l
    obtain ⟨l', h1, h2⟩ := ih
    refine ⟨(.ref C, some i, fun a cls d => liftN X i a cls d u) :: l', .named hN hi hl ⟨hg, hdb, Or.inl hm⟩ hs h1, fun c fs Γ S D H g σ cls d rel rg rx k => ?_⟩
    unfold xPick at k
    cases e : tbl.lookup c with
    | none => rw [e] at k; exact k.elim
    | some b =>
      rw [e] at k
      refine ⟨b, ht c b cls e rx.1, fun hb a ha => ?_, fun hb => ?_⟩
      · subst hb
        have hlt : i < X.N.length := (List.getElem?_eq_some_iff.mp hi).1
        have rg0 : RG X H g S.length (Γ.set i none) (σ.set i (some (.ref a))) := by
          refine ⟨by rw [List.length_set, List.length_set]; exact rg.len, fun j p q => ?_⟩
          by_cases z : i = j
          · subst z
            rw [List.getElem?_set] at q
            rw [if_pos rfl] at q
            split at q <;> cases q
          · rw [List.getElem?_set_ne z] at q ⊢
            exact rg.at_ j p q
        have k : OKs X WN D H g S (if i < Γ.length then offR i (u c fs (Γ.set i none) S) else .bad) := k
        by_cases hil : i < Γ.length
        · rw [if_pos hil] at k
          refine ⟨g, Γ.set i none, S, c, fs, rel, rg0, List.getElem?_set_self (rg.len ▸ hil), rx, ?_⟩
          revert k
          cases u c fs (Γ.set i none) S with
          | nx Γ1 S1 => exact fun k g' H' σ' e' r' => k g' H' _ e' r'.unset
          | bk Γ1 S1 => exact fun k g' H' σ' e' r' => k g' H' _ e' r'.unset
          | ct Γ1 S1 => exact fun k g' H' σ' e' r' => k g' H' _ e' r'.unset
          | rt v S1 => exact fun k => k
          | ex c fs Γ1 S1 => exact fun k => k
          | bad => exact fun k => k
        · rw [if_neg hil] at k
          exact k.elim
      · subst hb; exact h2 c fs Γ S D H g σ cls d rel rg rx k
theorem Body.tryX {N : List Str} {sc : Scope} {k : Nat} {body : List Stmt} {h₀ : ExceptHandler} {hds : List ExceptHandler} {t : SF} {l : List (List (Str × Bool) × XF)} {pos : Pos} (b : Body X W N sc k)
    (hb : ∀ (W' : WX) (pn : List (Addr × Obj)) (xe : Value → Shared → Prop), Body (X.tr pn xe) W' N sc k → Ss (X.tr pn xe) W' body t) (hh : HdX X (h₀ :: hds) l) : St X W (.Try body (h₀ :: hds) [] [] pos) (sTryX t l) := by
  obtain ⟨l', h1, h2⟩ := hh.ok (W := W)
  refine ps_imp (ps_try_seq (tb := fun W' => liftS X W' t) b.hs b.hf b.tk (fun W' pn xe tk po => hb W' pn xe (b.tr tk po)) h1) fun D σ H ⟨g, Γ, S, rel, rg, ok⟩ => ⟨g, Γ, S, rel, rg, ?_⟩
  unfold sTryX at ok
  cases e : t Γ S with
  | nx Γ1 S1 => rw [e] at ok; exact ok
  | bk Γ1 S1 => rw [e] at ok; exact ok
  | ct Γ1 S1 => rw [e] at ok; exact ok
  | rt v S1 => rw [e] at ok; exact ok
  | bad => rw [e] at ok; exact ok
  | ex c fs Γ1 S1 =>
    rw [e] at ok
    dsimp only at ok
    intro g' H' σ' cls d ee rg' rx
    refine h2 c fs Γ1 S1 D H' g' σ' cls d ee.rel rg' rx ?_
    revert ok
    cases xPick l c with
    | none => exact fun z => z
    | some o => cases o with
      | none => exact fun z => z g' H' σ' cls d ee rg' rx
      | some u =>
        dsimp only
        intro ok
        exact noX_ok (OKs.cont ee ok)
/-! ### values in a suite that names the error -/
abbrev VF := Str → List (Str × PV) → Option PV
abbrev VsF := Str → List (Str × PV) → Option (List PV)
def liftV (X : Cx) (i : Nat) (a : Addr) (cls : Value) (d : Option Addr) (f : VF) : TE := fun σ H Q => ∃ g Γ S c fs p, Rel X H g S ∧ RG X H g S.length Γ σ ∧ σ[i]? = some (some (.ref a)) ∧ RX X H g S.length c fs cls d ∧ f c fs = some p ∧ ∀ g' H' x, Ext X H g S H' g' S → RV X H' g' S.length p x → Q x H'
def liftVs (X : Cx) (i : Nat) (a : Addr) (cls : Value) (d : Option Addr) (f : VsF) : TA := fun σ H Q => ∃ g Γ S c fs ps, Rel X H g S ∧ RG X H g S.length Γ σ ∧ σ[i]? = some (some (.ref a)) ∧ RX X H g S.length c fs cls d ∧ f c fs = some ps ∧ ∀ g' H' xs, Ext X H g S H' g' S → RVs X H' g' S.length ps xs → Q xs H'
/-- what holds of an error that is being handled -/
def VE (X : Cx) (i : Nat) (e : Expr) (f : VF) : Prop := ∀ (a : Addr) (oe : Obj) (cls : Value) (d : Option Addr) (pn : List (Addr × Obj)), Zc cls d oe → (∃ vs, oe.data = .fields vs) → PE (X.suite a ((a, oe) :: pn)) e (liftV X i a cls d f)
def VA (X : Cx) (i : Nat) (es : List Expr) (f : VsF) : Prop := ∀ (a : Addr) (oe : Obj) (cls : Value) (d : Option Addr) (pn : List (Addr × Obj)), Zc cls d oe → (∃ vs, oe.data = .fields vs) → PA (X.suite a ((a, oe) :: pn)) es (liftVs X i a cls d f)
variable {i : Nat}
theorem RX.up {Y : Kx} {H H' : Hp} {g g' : G} {S S' : Sto} {c : Str} {fs : List (Str × PV)} {cls : Value} {d : Option Addr} (rel : Rel Y H g S) (e : Ext Y H g S H' g' S') (h : RX Y H g S.length c fs cls d) : RX Y H' g' S'.length c fs cls d := h.mono (e.up rel)
def vC (p : PV) : VF := fun _ _ => some p
def vFld (x f : Str) : VF := fun c fs => if c = x then fs.lookup f else none
theorem VE.const {e : Expr} {v : V} {p : PV} (h : ∀ (X' : Cx), PE X' e (tC v)) (hp : ∀ H g L, RV X H g L p v) : VE X i e (vC p) := fun a oe cls d pn hz hf =>
  pe_imp (h _) fun σ H Q ⟨g, Γ, S, c, fs, q, rel, rg, hi, rx, e, k⟩ => by
    cases e
    exact k g H v (Ext.refl rel) (hp H g S.length)
theorem VE.str {z : Str} {j : Nat} {pos : Pos} : VE X i (.Constant (.str z) j pos) (vC (.str z)) := VE.const (fun _ => pe_str) fun _ _ _ => RV.str
theorem VE.int {z : Int} {j : Nat} {pos : Pos} : VE X i (.Constant (.int z) j pos) (vC (.int z)) := VE.const (fun _ => pe_int) fun _ _ _ => RV.int
/-- e.f, the error of the class x -/
theorem VE.fld {x f : Str} {C : Addr} {e : Expr} {pos : Pos} (T : XfC X.K C) (hm : X.mg x = some (.ref C)) (hno : PySem.W.findIn X.K (.ref C) f = some none) (he : ∀ (a : Addr) (pn : List (Addr × Obj)), PE (X.suite a pn) e (tVar i)) (hb : attributeBase e f X.env (eval e X.env) = eval e X.env := by rfl) :
    VE X i (.Attribute e f pos) (vFld x f) := fun a oe cls d pn hz hf =>
  pe_imp (pe_xf T hno hz hf (he a _) hb) fun σ H Q ⟨g, Γ, S, c, fs, q, rel, rg, hi, rx, e, k⟩ => by
    unfold vFld at e
    split at e
    · rename_i hc
      subst hc
      obtain ⟨r1, r2⟩ := rx
      have r3 : some (Value.ref C) = some cls := hm.symm.trans r1
      cases r3
      rcases r2 with ⟨rfl, _⟩ | ⟨dx, vs, rfl, hx, rv⟩
      · cases e
      · have find : ∀ (fs : List (Str × PV)) (vs : List V), RVs X H g S.length (fs.map (·.2)) vs → fs.lookup f = some q → ∃ v, ((fs.map (·.1)).zip vs).lookup f = some v ∧ RV X H g S.length q v := by
          intro fs
          induction fs with
          | nil => intro vs _ h; cases h
          | cons p fs ih =>
            intro vs rv h
            obtain ⟨n, w⟩ := p
            simp only [List.map_cons, RVs] at rv
            obtain ⟨v, r, rfl, h1, h2⟩ := rv
            rw [List.lookup_cons] at h
            rw [List.map_cons, List.zip_cons_cons, List.lookup_cons]
            by_cases z : (f == n) = true
            · rw [z] at h ⊢
              cases h
              exact ⟨v, rfl, h1⟩
            · have z : (f == n) = false := by simpa using z
              rw [z] at h ⊢
              exact ih r h2 h
        obtain ⟨v, l1, l2⟩ := find fs vs rv e
        exact ⟨_, hi, rfl, rfl, dx, _, v, rfl, hx, l1, k g H v (Ext.refl rel) l2⟩
    · cases e
def vsNil : VsF := fun _ _ => some []
def vsCons (f : VF) (r : VsF) : VsF := fun c fs => match f c fs, r c fs with
  | some p, some ps => some (p :: ps)
  | _, _ => none
theorem VA.nil : VA X i [] vsNil := fun a oe cls d pn hz hf => pa_imp pa_nil fun σ H Q ⟨g, Γ, S, c, fs, q, rel, rg, hi, rx, e, k⟩ => by
  cases e
  exact k g H [] (Ext.refl rel) RVs.nil
theorem VA.cons {e : Expr} {es : List Expr} {f : VF} {r : VsF} (he : VE X i e f) (hr : VA X i es r) (hs : starEach (e :: es) X.env = (false, eval e X.env) :: starEach es X.env := by rfl) : VA X i (e :: es) (vsCons f r) := fun a oe cls d pn hz hf =>
  pa_imp (pa_cons (he a oe cls d pn hz hf) (hr a oe cls d pn hz hf) hs) fun σ H Q ⟨g, Γ, S, c, fs, q, rel, rg, hi, rx, e, k⟩ => by
    unfold vsCons at e
    split at e
    · rename_i p ps e1 e2
      cases e
      refine ⟨g, Γ, S, c, fs, p, rel, rg, hi, rx, e1, fun g1 H1 x x1 r1 => ?_⟩
      refine ⟨g1, Γ, S, c, fs, ps, x1.rel, rg.up rel x1, hi, RX.up rel x1 rx, e2, fun g2 H2 xs x2 r2 => ?_⟩
      exact k g2 H2 _ (x1.trans x2) (RVs.cons (RV.up x1.rel x2 _ _ r1) r2)
    · cases e
def vDisp (k : Kd) (f : VsF) : VF := fun c fs => match f c fs with
  | some ps => if ps.length ≤ sizeLine then some (.con .own k ps) else none
  | none => none
theorem VE.lst {es : List Expr} {f : VsF} {pos : Pos} (h : VA X i es f) : VE X i (.List es pos) (vDisp .lst f) := fun a oe cls d pn hz hf =>
  pe_imp (pe_lst (h a oe cls d pn hz hf)) fun σ H Q ⟨g, Γ, S, c, fs, q, rel, rg, hi, rx, e, k⟩ => by
    unfold vDisp at e
    split at e
    · rename_i ps e1
      split at e
      · rename_i hl
        cases e
        refine ⟨g, Γ, S, c, fs, ps, rel, rg, hi, rx, e1, fun g1 H1 xs x1 r1 => ⟨by rw [← r1.len]; exact hl, fun p hp => ?_⟩⟩
        obtain ⟨z1, z2⟩ := newF_ok x1.rel hp (k := .lst) (o := .lst _) rfl r1
        exact k _ _ _ (x1.trans z1) z2
      · cases e
    · cases e
theorem VE.tup {es : List Expr} {f : VsF} {x1 : Nat} {pos : Pos} (h : VA X i es f) : VE X i (.Tuple es x1 pos) (vDisp .tup f) := fun a oe cls d pn hz hf =>
  pe_imp (pe_tup (h a oe cls d pn hz hf)) fun σ H Q ⟨g, Γ, S, c, fs, q, rel, rg, hi, rx, e, k⟩ => by
    unfold vDisp at e
    split at e
    · rename_i ps e1
      split at e
      · rename_i hl
        cases e
        refine ⟨g, Γ, S, c, fs, ps, rel, rg, hi, rx, e1, fun g1 H1 xs x1 r1 => ⟨by rw [← r1.len]; exact hl, fun p hp => ?_⟩⟩
        obtain ⟨z1, z2⟩ := newF_ok x1.rel hp (k := .tup) (o := .tup _) rfl r1
        exact k _ _ _ (x1.trans z1) z2
      · cases e
    · cases e
/-- name = e, in a suite that names the error -/
def xSet (j : Nat) (f : VF) : XF := fun c fs Γ S => match f c fs with
  | some p => .nx (Γ.set j (some p)) S
  | none => .bad
theorem Body.suSetX {N : List Str} {sc : Scope} {k : Nat} (b : Body X W N sc k) (nd : N.Nodup) (j : Nat) (y : Str) {e : Expr} {f : VF} {pos pos' : Pos} (h : slT N sc j y = true) (he : VE X i e f)
    (hs : swapsWith e (some (.Name y pos')) pos.line X.env = pure false := by rfl) : SuOk X [.Assign [.Name y pos'] e pos] (fun a cls d => liftN X i a cls d (xSet j f)) := by
  have b1 := b.hN
  have b2 := b.sc
  subst b1 b2
  obtain ⟨h1, h2⟩ := slT_ok h
  intro a oe cls d pn hz hf
  refine pss_one (ps_imp (ps_set (X := X.suite a ((a, oe) :: pn)) nd h1 h2 (he a oe cls d pn hz hf) hs (.inl (b.fn y))) fun D σ H ⟨g, Γ, S, c, fs, rel, rg, hi, rx, ok⟩ => ?_)
  unfold xSet at ok
  cases e : f c fs with
  | none => rw [e] at ok; exact ok.elim
  | some p =>
    rw [e] at ok
    exact ⟨g, Γ, S, c, fs, p, rel, rg, hi, rx, e, fun g1 H1 x x1 r1 => ok g1 H1 _ x1 ((rg.up rel x1).set r1)⟩
end
end Pv

/-! Pv20: isinstance of an error that is being handled. -/
namespace Pv
open PySem PySem.Spec PyProof.Rows L2
section
variable {X : Cx} {W : WX} {i : Nat}
/-- what an error's class D must say so that isinstance may ask its errors -/
structure XisC (K : PySem.W.Frag) (D : Addr) : Prop where
  c : (PySem.W.clsIn K D).isSome = true
  ga : PySem.W.findIn K (.ref D) "__getattribute__" = some (some (.builtin "BaseException.__getattribute__"))
  gt : PySem.W.findIn K (.ref D) "__getattr__" = some none
  s : PySem.W.subIn K (.ref D) (.type "BaseException") = some true
  a : PySem.W.findIn K (.ref D) "__class__" = some (some (.builtin "object.__class__"))
  n : PySem.W.specialIn K (.builtin "object.__class__") "__get__" = some (some (.builtin "getset_descriptor.__get__"))
  t : PySem.W.takesIn K (.builtin "object.__class__") = some true
  m : PySem.W.mroIn K D (.type "object") = some true
def xisB (K : PySem.W.Frag) (D : Addr) : Bool :=
  (PySem.W.clsIn K D).isSome && (decide (PySem.W.findIn K (.ref D) "__getattribute__" = some (some (.builtin "BaseException.__getattribute__"))) &&
  (decide (PySem.W.findIn K (.ref D) "__getattr__" = some none) && (decide (PySem.W.subIn K (.ref D) (.type "BaseException") = some true) &&
  (decide (PySem.W.findIn K (.ref D) "__class__" = some (some (.builtin "object.__class__"))) && (decide (PySem.W.specialIn K (.builtin "object.__class__") "__get__" = some (some (.builtin "getset_descriptor.__get__"))) &&
  (decide (PySem.W.takesIn K (.builtin "object.__class__") = some true) && decide (PySem.W.mroIn K D (.type "object") = some true)))))))
theorem xisB_ok {K : PySem.W.Frag} {D : Addr} (h : xisB K D = true) : XisC K D := by
  obtain ⟨c1, h⟩ := He.ba h
  obtain ⟨c2, h⟩ := He.ba h
  obtain ⟨c3, h⟩ := He.ba h
  obtain ⟨c4, h⟩ := He.ba h
  obtain ⟨c5, h⟩ := He.ba h
  obtain ⟨c6, h⟩ := He.ba h
  obtain ⟨c7, c8⟩ := He.ba h
  exact ⟨c1, of_decide_eq_true c2, of_decide_eq_true c3, of_decide_eq_true c4, of_decide_eq_true c5, of_decide_eq_true c6, of_decide_eq_true c7, of_decide_eq_true c8⟩
def rIsX (K : PySem.W.Frag) (D a : Addr) (d : Option Addr) : List V → Hp → VK → Prop := fun xs H Q => ∃ (c : V) (cv : Value) (b : Bool), xs = [.ref a, c] ∧ (∀ u, RelV c u → u = cv) ∧ (d = none ∨ ∃ dd fs, d = some dd ∧ H dd = some (.xd fs)) ∧ PySem.W.kitOne K (.ref D) cv = some b ∧ Q (.bl b) H
theorem call_isX {a D : Addr} {d : Option Addr} {oe : Obj} {pn : List (Addr × Obj)} (C : XisC X.K D) (hz : Zc (.ref D) d oe) (hf : ∃ vs, oe.data = .fields vs) : CallR (X.suite a ((a, oe) :: pn)) (.builtin "isinstance") (rIsX X.K D a d) := by
  intro pins s σ H xs us Q I r h
  obtain ⟨c, cv, b, rfl, hcv, hd, e, q⟩ := h
  cases r with
  | cons rx rr =>
    cases rr with
    | cons rt rr =>
      cases rr
      cases rx
      have ec := hcv _ rt
      subst ec
      obtain ⟨hget, _⟩ := I.pin (a, oe) (List.mem_append.mpr (.inl List.mem_cons_self))
      obtain ⟨vs, hv⟩ := hf
      have J : ∃ od, PySem.W.InstAt s.heap a oe D od := by
        rcases hd with rfl | ⟨dd, fs, rfl, hx⟩
        · obtain ⟨oc, od, oda, osl⟩ := oe
          obtain ⟨h1, h2⟩ := hz
          dsimp only at h1 h2 hv
          subst h1 h2 hv
          exact ⟨none, hget, rfl, rfl, trivial⟩
        · have ho : ObjOk X.prog X.w H s.heap dd (.xd fs) := I.hok dd _ hx
          obtain ⟨mA, hns, _⟩ := ho
          obtain ⟨od, ho2, _⟩ := lookIn_ns hns
          exact ⟨some od, hget, hz.1, by unfold PySem.W.notCls; rw [hv] <;> rfl, by rw [hz.2]; exact ho2⟩
      obtain ⟨od, J⟩ := J
      exact PySem.W.kia_one (PySem.W.kitx_exc C.c C.ga C.gt C.s C.a C.n C.t C.m) I.kIn J e (fun z => nomatch z) fun tk => ⟨.bl b, H, I.kept (t' := tk) fun _ _ z => z, rfl, q⟩
/-- isinstance(e, y): what it says of errors of the named classes -/
def XisT (K : PySem.W.Frag) (mg : Str → Option Value) (y : Str) (tbl : List (Str × Bool)) : Prop := mg y = some (.ref (He.ga K y)) ∧
  ∀ c b cls, tbl.lookup c = some b → mg c = some cls → ∃ D, cls = .ref D ∧ XisC K D ∧ PySem.W.kitOne K (.ref D) (.ref (He.ga K y)) = some b
def xistB (K : PySem.W.Frag) (y : Str) (tbl : List (Str × Bool)) : Bool := He.Fa.ok K (.glo y) && tbl.all fun p => He.Fa.ok K (.glo p.1) && (xisB K (He.ga K p.1) && decide (PySem.W.kitOne K (.ref (He.ga K p.1)) (.ref (He.ga K y)) = some p.2))
theorem mem_lookup {c : Str} {b : Bool} : ∀ {tbl : List (Str × Bool)}, tbl.lookup c = some b → (c, b) ∈ tbl
  | [], e => by cases e
  | (q1, q2) :: r, e => by
    rw [List.lookup_cons] at e
    split at e
    · rename_i z
      cases e
      rw [eq_of_beq z]
      exact List.mem_cons_self
    · exact List.mem_cons_of_mem _ (mem_lookup e)
theorem xistB_ok {K : PySem.W.Frag} {h : Heap} {mg : Str → Option Value} {y : Str} {tbl : List (Str × Bool)} (Y : K.In h) (G : h.Ns mainGlobals mg) (c : xistB K y tbl = true) : XisT K mg y tbl := by
  obtain ⟨c1, c2⟩ := He.ba c
  refine ⟨He.glo_ok Y G c1, fun x b cls e m => ?_⟩
  obtain ⟨z1, z2⟩ := He.ba (List.all_eq_true.mp c2 _ (mem_lookup e))
  obtain ⟨z2, z3⟩ := He.ba z2
  have := He.glo_ok Y G z1
  rw [this] at m
  cases m
  exact ⟨_, rfl, xisB_ok z2, of_decide_eq_true z3⟩
def vIs (tbl : List (Str × Bool)) : VF := fun c _ => (tbl.lookup c).map PV.bl
theorem RX.dict {Y : Kx} {H : Hp} {g : G} {L : Nat} {c : Str} {fs : List (Str × PV)} {cls : Value} {d : Option Addr} (h : RX Y H g L c fs cls d) : d = none ∨ ∃ dd fs, d = some dd ∧ H dd = some (.xd fs) := by
  rcases h.2 with ⟨_, h⟩ | ⟨dx, vs, h1, h2, _⟩
  · exact Or.inl h
  · exact Or.inr ⟨dx, _, h1, h2⟩
theorem VE.isX {y : Str} {tbl : List (Str × Bool)} {e : Expr} {p p2 pos : Pos} (T : XisT X.K X.mg y tbl) (hg : Gl X "isinstance") (hm : X.mg "isinstance" = none) (hgy : Gl X y) (he : ∀ (a : Addr) (pn : List (Addr × Obj)), PE (X.suite a pn) e (tVar i)) (hdy : (y == ("__debug__" : Str)) = false := by decide)
    (h1 : starEach (e :: [.Name y p2]) X.env = (false, eval e X.env) :: starEach [.Name y p2] X.env := by rfl) (h2 : starEach [.Name y p2] X.env = (false, eval (.Name y p2) X.env) :: starEach [] X.env := by rfl)
    (hpl : (backTo pos (starEach [.Name y p2] X.env)).any (·.1) = false := by rfl) :
    VE X i (.Call (.Name "isinstance" p) [e, .Name y p2] [] pos) (vIs tbl) := by
  intro a oe cls d pn hz hf
  have hC : ∀ (σ : L2.St) (H : Hp) (Q : VK), liftV X i a cls d (vIs tbl) σ H Q → ∃ D, cls = .ref D ∧ XisC X.K D := fun σ H Q ⟨g, Γ, S, c, fs, q, rel, rg, hi, rx, ee, k⟩ => by
    simp only [vIs, Option.map_eq_some_iff] at ee
    obtain ⟨b, e1, rfl⟩ := ee
    obtain ⟨D, z1, z2, _⟩ := T.2 c b cls e1 rx.1
    exact ⟨D, z1, z2⟩
  refine ⟨fun pins s σ H Q I h => ?_⟩
  obtain ⟨D, rfl, C⟩ := hC σ H Q h
  have base := pe_callB (X := X.suite a ((a, oe) :: pn)) (p := p) (pos := pos) (x := "isinstance") (call_isX C hz hf) hg hm (by decide +kernel) (pa_cons (he a _) (pa_cons (pe_glob (v := .ref (He.ga X.K y)) hgy T.1 rfl hdy) pa_nil h2) h1) (by decide) (by decide) h1 hpl
  refine base.run pins s σ H Q I ?_
  obtain ⟨g, Γ, S, c, fs, q, rel, rg, hi, rx, ee, k⟩ := h
  simp only [vIs, Option.map_eq_some_iff] at ee
  obtain ⟨b, e1, rfl⟩ := ee
  obtain ⟨D', z1, z2, z3⟩ := T.2 c b _ e1 rx.1
  cases z1
  exact ⟨_, hi, .ref (He.ga X.K y), .ref (He.ga X.K y), b, rfl, fun u r => r, rx.dict, z3, k g H _ (Ext.refl rel) RV.bl⟩
end
end Pv
namespace Pv
open PySem PySem.Spec PyProof.Rows L2
section
variable {X : Cx} {W : WX} {N : List Str} {sc : Scope} {k : Nat}
/-- a field f of an own error class x, that may be read -/
structure XfX (K : PySem.W.Frag) (mg : Str → Option Value) (x f : Str) : Prop where
  g : mg x = some (.ref (He.ga K x))
  t : XfC K (He.ga K x)
  no : PySem.W.findIn K (.ref (He.ga K x)) f = some none
def xfxB (K : PySem.W.Frag) (x f : Str) : Bool := He.Fa.ok K (.glo x) && (xfB K (He.ga K x) && He.Fa.ok K (.noat x f))
theorem xfxB_ok {K : PySem.W.Frag} {h : Heap} {mg : Str → Option Value} {x f : Str} (Y : K.In h) (G : h.Ns mainGlobals mg) (c : xfxB K x f = true) : XfX K mg x f := by
  obtain ⟨c1, c⟩ := He.ba c
  obtain ⟨c2, c3⟩ := He.ba c
  exact ⟨He.glo_ok Y G c1, xfB_ok c2, He.noat_ok c3⟩
theorem Body.suVar (b : Body X W N sc k) (i : Nat) (x : Str) {pos : Pos} (h : slC N sc i x = true) : ∀ (a : Addr) (pn : List (Addr × Obj)), PE (X.suite a pn) (.Name x pos) (tVar i) := by
  have b1 := b.hN
  have b2 := b.sc
  subst b1 b2
  obtain ⟨h1, h2, h3, h4⟩ := slC_ok h
  exact fun a pn => pe_var (X := X.suite a pn) h1 h2 h3 h4
theorem Body.fld (b : Body X W N sc k) {i : Nat} {x f n : Str} {p1 p2 : Pos} (T : XfX X.K X.mg x f) (h : slC N sc i n = true) : VE X i (.Attribute (.Name n p1) f p2) (vFld x f) := VE.fld T.t T.g T.no (b.suVar i n h)
theorem Body.isX (b : Body X W N sc k) {i : Nat} {y n : Str} {tbl : List (Str × Bool)} {p1 p2 p3 pos : Pos} (T : XisT X.K X.mg y tbl) (hg : Gl X "isinstance") (hm : X.mg "isinstance" = none) (hgy : Gl X y) (h : slC N sc i n = true) (hdy : (y == ("__debug__" : Str)) = false := by decide) :
    VE X i (.Call (.Name "isinstance" p1) [.Name n p2, .Name y p3] [] pos) (vIs tbl) := VE.isX T hg hm hgy (b.suVar i n h) hdy
theorem Body.named (b : Body X W N sc k) (nd : N.Nodup) (i : Nat) (n : Str) (h : (decide (N[i]? = some n) && decide (sc.names.lookup n = some .local)) = true) {x : Str} {C : Addr} {tbl : List (Str × Bool)} {u : XF} {b₀ : Stmt} {suite : List Stmt} {np pos' : Pos} {hds : List ExceptHandler} {l : List (List (Str × Bool) × XF)}
    (hg : Gl X x) (hdb : (x == ("__debug__" : Str)) = false) (hm : X.mg x = some (.ref C)) (ht : ∀ c b cls, tbl.lookup c = some b → X.mg c = some cls → PySem.W.exmOne X.K cls (.ref C) = some b)
    (hs : SuOk X (b₀ :: suite) (fun a cls d => liftN X i a cls d u)) (r : HdX X hds l) : HdX X (.ExceptHandler (some (.Name x np)) (some n) (b₀ :: suite) pos' :: hds) ((tbl, xAs i u) :: l) := by
  have b1 := b.hN
  have b2 := b.sc
  subst b1 b2
  simp only [Bool.and_eq_true, decide_eq_true_eq] at h
  exact .named nd h.1 h.2 hg hdb hm ht hs r
end
end Pv

namespace Pv
open PySem PySem.Spec PyProof.Rows L2
/-! What is raised goes on; places that are written. -/
section
variable {Γ : Gam} {S : Sto} {c : Str} {fs : List (Str × PV)} {f f' : OF} {a b tc : EF} {p q : PV} {k : Bool} {tr : AF} {s r : BF}
@[simp] theorem opK_ex : opK f b Γ (.ex c fs S) = .ex c fs S := (rfl)
@[simp] theorem opK2_ex : opK2 f p (.ex c fs S) = .ex c fs S := (rfl)
@[simp] theorem chK_ex : chK f f' b tc Γ (.ex c fs S) = .ex c fs S := (rfl)
@[simp] theorem chK2_ex : chK2 f f' p tc Γ (.ex c fs S) = .ex c fs S := (rfl)
@[simp] theorem uK_ex {g : PV → PV} : uK g (.ex c fs S) = .ex c fs S := (rfl)
@[simp] theorem negK_ex : negK (.ex c fs S) = .ex c fs S := (rfl)
@[simp] theorem beK_ex : beK (.ex c fs S) = .ex c fs S := (rfl)
@[simp] theorem btK_ex : btK (.ex c fs S) = .ex c fs S := (rfl)
@[simp] theorem andK_ex : andK r Γ (.ex c fs S) = .ex c fs S := (rfl)
@[simp] theorem orK_ex : orK r Γ (.ex c fs S) = .ex c fs S := (rfl)
@[simp] theorem notK_ex : notK (.ex c fs S) = .ex c fs S := (rfl)
@[simp] theorem eandK_ex : eandK b Γ (.ex c fs S) = .ex c fs S := (rfl)
@[simp] theorem eorK_ex : eorK b Γ (.ex c fs S) = .ex c fs S := (rfl)
@[simp] theorem enotK_ex : enotK (.ex c fs S) = .ex c fs S := (rfl)
@[simp] theorem eifK_ex : eifK a b Γ (.ex c fs S) = .ex c fs S := (rfl)
@[simp] theorem consK_ex : consK tr Γ (.ex c fs S) = .ex c fs S := (rfl)
@[simp] theorem consK2_ex : consK2 p (.ex c fs S) = .ex c fs S := (rfl)
@[simp] theorem tupK_ex : tupK (.ex c fs S) = .ex c fs S := (rfl)
@[simp] theorem lstK_ex : lstK k (.ex c fs S) = .ex c fs S := (rfl)
@[simp] theorem calK_ex {g : CF} : calK g (.ex c fs S) = .ex c fs S := (rfl)
@[simp] theorem calPK_ex {g : List PV → RP} : calPK g (.ex c fs S) = .ex c fs S := (rfl)
@[simp] theorem calWK_ex {g : List PV → Sto → R PV} : calWK g (.ex c fs S) = .ex c fs S := (rfl)
@[simp] theorem emK_ex {T : String} {g : MF} : emK T g tr Γ (.ex c fs S) = .ex c fs S := (rfl)
@[simp] theorem emK2_ex {g : MF} : emK2 g p (.ex c fs S) = .ex c fs S := (rfl)
@[simp] theorem augK_ex {i : Nat} : augK i f p Γ (.ex c fs S) = .ex c fs Γ S := (rfl)
@[simp] theorem rsK_ex {x y : Str} : rsK x y Γ (.ex c fs S) = .ex c fs Γ S := (rfl)
/-! places -/
section
variable {α : Type} {x0 x1 x2 x3 x4 : α} {xs : List α}
@[simp] theorem atI_0 : L2.atI (x0 :: xs) 0 = some x0 := by
  unfold L2.atI ixN; simp
@[simp] theorem atI_1 : L2.atI (x0 :: x1 :: xs) 1 = some x1 := by
  unfold L2.atI ixN
  rw [if_pos (by decide), if_pos (by simp <;> omega)]; rfl
@[simp] theorem atI_2 : L2.atI (x0 :: x1 :: x2 :: xs) 2 = some x2 := by
  unfold L2.atI ixN
  rw [if_pos (by decide), if_pos (by simp <;> omega)]; rfl
@[simp] theorem atI_3 : L2.atI (x0 :: x1 :: x2 :: x3 :: xs) 3 = some x3 := by
  unfold L2.atI ixN
  rw [if_pos (by decide), if_pos (by simp <;> omega)]; rfl
@[simp] theorem atI_4 : L2.atI (x0 :: x1 :: x2 :: x3 :: x4 :: xs) 4 = some x4 := by
  unfold L2.atI ixN
  rw [if_pos (by decide), if_pos (by simp <;> omega)]; rfl
end
/-! try -/
def tryXK (l : List (List (Str × Bool) × XF)) : RS → RS
  | .ex c fs Γ1 S1 => match xPick l c with
    | none => .bad
    | some none => .ex c fs Γ1 S1
    | some (some u) => noX (u c fs Γ1 S1)
  | r => r
variable {t : SF} {l : List (List (Str × Bool) × XF)} {u : XF}
@[simp] theorem sTryX_eq : sTryX t l Γ S = tryXK l (t Γ S) := by unfold sTryX tryXK; cases t Γ S <;> rfl
@[simp] theorem tryXK_nx : tryXK l (.nx Γ S) = .nx Γ S := (rfl)
@[simp] theorem tryXK_rt : tryXK l (.rt p S) = .rt p S := (rfl)
theorem tryXK_ex (h : xPick l c = some (some u)) : tryXK l (.ex c fs Γ S) = noX (u c fs Γ S) := by unfold tryXK; simp only [h]
theorem xAs_eq {i : Nat} (h : i < Γ.length) : xAs i u c fs Γ S = offR i (u c fs (Γ.set i none) S) := if_pos h
theorem xSet_eq {j : Nat} {f : VF} (h : f c fs = some p) : xSet j f c fs Γ S = .nx (Γ.set j (some p)) S := by unfold xSet; rw [h]
@[simp] theorem noX_nx : noX (.nx Γ S) = .nx Γ S := (rfl)
@[simp] theorem noX_rt : noX (.rt p S) = .rt p S := (rfl)
@[simp] theorem offR_nx {i : Nat} : offR i (.nx Γ S) = .nx (Γ.set i none) S := (rfl)
end
end Pv

/-! Pv22: instances: fields read, stored; what a class makes. -/
namespace Pv
open PySem PySem.Spec PyProof.Rows L2
section
variable {X : Cx} {W : WX} {H H' H'' : Hp} {g g' : G} {S S' : Sto} {σ : L2.St} {Γ : Gam}
/-- a field f of the class c that may be read and stored -/
structure AttT (K : PySem.W.Frag) (mg : Str → Option Value) (c f : Str) : Prop where
  gg : mg c = some (.ref (He.ga K c))
  cl : Cls K (He.ga K c)
  no : NoAttr K (He.ga K c) f
def attB (K : PySem.W.Frag) (c f : Str) : Bool := He.Fa.ok K (.glo c) && (He.Fa.ok K (.cls c) && He.Fa.ok K (.noat c f))
theorem attB_ok {K : PySem.W.Frag} {h : Heap} {mg : Str → Option Value} {c f : Str} (Y : K.In h) (G : h.Ns mainGlobals mg) (q : attB K c f = true) : AttT K mg c f := by
  obtain ⟨c1, q⟩ := He.ba q
  obtain ⟨c2, c3⟩ := He.ba q
  exact ⟨He.glo_ok Y G c1, He.cls_ok c2, He.noat_ok c3⟩
/-- a field, by name -/
def fldP (cs : List Str) (f : Str) (S : Sto) (p : PV) : Option PV := match derefH S p with
  | some (.ins c ns, xs) => if c ∈ cs then (ns.zip xs).lookup f else none
  | _ => none
theorem zip_lookup {Y : Kx} {L : Nat} {f : Str} {p : PV} : ∀ {ns : List Str} {xs : List PV} {vs : List V}, RVs Y H g L xs vs → (ns.zip xs).lookup f = some p → ∃ v, (ns.zip vs).lookup f = some v ∧ RV Y H g L p v
  | [], xs, vs, _, h => by simp at h
  | n :: ns, [], vs, _, h => by simp at h
  | n :: ns, x :: xs, vs, rv, h => by
    simp only [RVs] at rv
    obtain ⟨v, r, rfl, h1, h2⟩ := rv
    rw [List.zip_cons_cons, List.lookup_cons] at h ⊢
    by_cases z : (f == n) = true
    · rw [z] at h ⊢
      cases h
      exact ⟨v, rfl, h1⟩
    · have z : (f == n) = false := by simpa using z
      rw [z] at h ⊢
      exact zip_lookup h2 h
def eFld (cs : List Str) (f : Str) (t : EF) : EF := fun Γ S => (t Γ S).bind fun p S1 => match fldP cs f S1 p with
  | some v => .ok v S1
  | none => .bad
theorem fld_ok {cs : List Str} {f : Str} {p q : PV} {x : V} (T : ∀ c ∈ cs, AttT X.K X.mg c f) (rel : Rel X H g S) (rx : RV X H g S.length p x) (h : fldP cs f S p = some q) :
    ∃ a C dx fs v, x = .ref a ∧ H a = some (.ins C dx fs) ∧ Cls X.K C ∧ NoAttr X.K C f ∧ fs.lookup f = some v ∧ RV X H g S.length q v := by
  unfold fldP at h
  split at h
  · rename_i c ns xs e
    split at h
    · rename_i hc
      obtain ⟨a, vs, o, rfl, h2, h3, h4⟩ := derefH_ok rel rx e
      obtain ⟨C, dx, hm, hl, rfl⟩ := h3
      have t := T c hc
      have : some (Value.ref (He.ga X.K c)) = some (.ref C) := t.gg.symm.trans hm
      cases this
      obtain ⟨v, l1, l2⟩ := zip_lookup h2 h
      exact ⟨a, _, dx, _, v, rfl, h4, t.cl, t.no, l1, l2⟩
    · cases h
  · cases h
theorem E.fld {cs : List Str} {f : Str} {e : Expr} {t : EF} {pos : Pos} (T : ∀ c ∈ cs, AttT X.K X.mg c f) (h : E X W e t) (hb : attributeBase e f X.env (eval e X.env) = eval e X.env := by rfl) : E X W (.Attribute e f pos) (eFld cs f t) :=
  pe_imp (pe_fld h hb) fun σ H Q ⟨g, Γ, S, rel, rg, ok⟩ => ⟨g, Γ, S, rel, rg, OKw.mono (OKw.bind ok) fun p S1 g1 H1 _ e1 h1 x rx => by
    split at h1
    · rename_i v hv
      obtain ⟨a, C, dx, fs, w, rfl, q1, q2, q3, q4, q5⟩ := fld_ok T e1.rel rx hv
      exact ⟨a, C, dx, fs, w, rfl, q1, q2, q3, q4, OKw.ok e1.rel h1 w q5⟩
    · exact h1.elim⟩
/-! a field stored -/
def putN (f : Str) (v : PV) : List Str → List PV → List Str × List PV
  | [], _ => ([f], [v])
  | n :: ns, xs => match xs with
    | [] => ([f], [v])
    | x :: xs => if n = f then (n :: ns, v :: xs) else (n :: (putN f v ns xs).1, x :: (putN f v ns xs).2)
theorem putN_ok {Y : Kx} {L : Nat} {f : Str} {p : PV} {w : V} (hp : RV Y H g L p w) : ∀ {ns : List Str} {xs : List PV} {vs : List V}, ns.length = vs.length → RVs Y H g L xs vs →
    ∃ ws, RVs Y H g L (putN f p ns xs).2 ws ∧ (putN f p ns xs).1.length = ws.length ∧ (putN f p ns xs).1.zip ws = putF f w (ns.zip vs)
  | [], xs, vs, hl, rv => by
    cases vs with
    | nil => exact ⟨[w], RVs.cons hp RVs.nil, rfl, rfl⟩
    | cons _ _ => simp at hl
  | n :: ns, xs, vs, hl, rv => by
    cases vs with
    | nil => simp at hl
    | cons v vs =>
      cases xs with
      | nil => simp only [RVs] at rv; cases rv
      | cons x xs =>
        simp only [RVs] at rv
        obtain ⟨v', r, e, h1, h2⟩ := rv
        cases e
        by_cases z : n = f
        · refine ⟨w :: vs, ?_, ?_, ?_⟩
          · simp only [putN, if_pos z]; exact RVs.cons hp h2
          · simp only [putN, if_pos z]; simpa using hl
          · simp only [putN, if_pos z, List.zip_cons_cons, putF]
        · obtain ⟨ws, q1, q2, q3⟩ := putN_ok hp (ns := ns) (xs := xs) (vs := vs) (by simpa using hl) h2
          refine ⟨v :: ws, ?_, ?_, ?_⟩
          · simp only [putN, if_neg z]; exact RVs.cons h1 q1
          · simp only [putN, if_neg z, List.length_cons, q2]
          · simp only [putN, if_neg z, List.zip_cons_cons, putF, q3]
def stF (cs : List Str) (f : Str) (v : PV) (S : Sto) (p : PV) : Option Sto := match p with
  | .ref n => match S[n]?.join with
    | some (.ins c ns, xs) => if c ∈ cs ∧ ns.length < 1000 then some (S.set n (some (.ins c (putN f v ns xs).1, (putN f v ns xs).2))) else none
    | _ => none
  | _ => none
def sFldF (cs : List Str) (f : Str) (to te : EF) : SF := fun Γ S => (te Γ S).st Γ fun v S1 => (to Γ S1).st Γ fun o S2 => match stF cs f v S2 o with
  | some S3 => .nx Γ S3
  | none => .bad
theorem St.fld {cs : List Str} {f : Str} {o e : Expr} {to te : EF} {pos pos' : Pos} (T : ∀ c ∈ cs, AttT X.K X.mg c f) (ho : E X W o to) (he : E X W e te) (hs : swapsWith e (some (.Attribute o f pos')) pos.line X.env = pure false := by rfl) :
    St X W (.Assign [.Attribute o f pos'] e pos) (sFldF cs f to te) :=
  ps_imp (ps_fld ho he hs) fun D σ H ⟨g, Γ, S, rel, rg, ok⟩ => by
    refine ⟨g, Γ, S, rel, rg, OKw.mono (OKs.st rel rg ok) fun v S1 g1 H1 _ e1 h1 y ry => ?_⟩
    have rg1 := rg.up rel e1
    refine ⟨g1, Γ, S1, e1.rel, rg1, OKw.mono (OKs.st e1.rel rg1 h1) fun p S2 g2 H2 _ e2 h2 x rx => ?_⟩
    have ry2 := RV.up e1.rel e2 _ _ ry
    have rg2 := rg1.up e1.rel e2
    split at h2
    · rename_i S3 hs3
      unfold stF at hs3
      split at hs3
      · rename_i nn _
        split at hs3
        · rename_i c ns xs ej
          split at hs3
          · rename_i hc
            cases hs3
            have hn := join_some ej
            obtain ⟨u, vs, q1, q2, _, q4⟩ := e2.rel.ob nn _ _ hn
            obtain ⟨C, dx, hm, hl, rfl⟩ := q2
            have t := T c hc.1
            have : some (Value.ref (He.ga X.K c)) = some (.ref C) := t.gg.symm.trans hm
            cases this
            simp only [RV] at rx
            obtain ⟨ws, w1, w2, w3⟩ := putN_ok (f := f) ry2 hl q4
            refine ⟨g2.r nn, _, dx, _, rx.2, q1, t.cl, t.no, ?_, ?_⟩
            · rw [List.length_zip, ← hl]; omega
            · have e3 := set_ok e2.rel hn (k' := .ins c (putN f v ns xs).1) (o' := .ins (He.ga X.K c) dx (putF f y (ns.zip vs))) ⟨_, dx, hm, w2, by rw [w3]⟩ (by intro z; cases z) w1
              exact h2 _ _ σ e3 (rg2.up e2.rel e3)
          · cases hs3
        · cases hs3
      · cases hs3
    · exact h2.elim
end
/-! ### what a class makes: its __init__ as a function of data -/
/-- a new instance of c stands at the first place; the rest as a def's run -/
def runI (c : Str) (np n : Nat) (body : SF) (args : List PV) : RP := if args.length + 1 = np then (match body (some (.ref 0) :: (args.map some ++ List.replicate (n - (args.length + 1)) none)) [some (.ins c [], [])] with
  | .nx _ S => resP S (.ref 0)
  | .rt .non S => resP S (.ref 0)
  | .ex c fs _ S => if cleans (fs.map (·.2)) = true then .ex c fs else .bad
  | _ => .bad) else .bad
def OKi (Y : Kx) (H : Hp) (g : G) (x : Addr) (r : RP) (Q : VK) (E : XK) : Prop := match r with
  | .ok v => ∀ H' F', Gro H g H' F' → RV Y H' (Gp F') 0 v (.ref x) → Q .non H'
  | .ex c fs => ∀ H' F' cls d, Gro H g H' F' → RX Y H' (Gp F') 0 c fs cls d → E cls d H'
  | .bad => False
def spI (Y : Kx) (c : Str) (f : List PV → RP) : Sp := fun vs H Q E => ∃ (H1 : Hp) (x dx C : Addr) (ws : List V) (g : G) (ps : List PV), vs = .ref x :: ws ∧ Y.mg c = some (.ref C) ∧ H1 x = none ∧ H1 dx = none ∧ dx ≠ x ∧ H = upd (upd H1 dx (.own x)) x (.ins C dx []) ∧
  RVs Y H1 g 0 ps ws ∧ (∀ a, g.F a ∨ g.T a → ∃ o, H1 a = some o) ∧ OKi Y H1 g x (f ps) Q E
section
variable {P : Program} {w : World} {K : PySem.W.Frag} {mg : Str → Option Value} {base : Heap}
theorem fnI {c qual : Str} {st : Stmt} {dvs : List V} {kws : List (Str × V)} {f : Addr} {fd : FuncData} {N ps : List Str} {k np n : Nat} {body : SF} (F : FunD K "__init__" qual (defArgs st) (defBody st) (defScope st) dvs kws f fd) (Sc : FnScope N ps (defScope st)) (hnp : ps.length = np) (hn : N.length = n)
    (hbody : ∀ (X : Cx) (W : WX), X.prog = P → X.w = w → X.K = K → X.mg = mg → X.base = base → Body X W N (defScope st) k → Ss X W (defBody st) body) : FnOk P w K mg base (L2.CX P w) (k + 1) f fd ps (spI ⟨K, mg⟩ c (runI c np n body)) := by
  refine F.ok Sc (fun vs H Q E ⟨H1, x, dx, C, ws, g, qs, e, hm, h1, h2, hne, eH, rv, htr, ok⟩ => ?_) (fun cdv A outer s H vs Q E hr ⟨H1, x, dx, C, ws, g, qs, e, hm, h1, h2, hne, eH, rv, htr, ok⟩ => ?_)
  · unfold runI at ok
    split at ok
    · rename_i el
      rw [e, List.length_cons, ← rv.len, el, hnp]
    · exact ok.elim
  · unfold runI at ok
    split at ok
    · rename_i elen
      subst hn
      subst e
      let X := cxOf (L2.CX P w) P w K mg base N qual (defScope st) f cdv A outer s H E
      have tk : Takes X (fun cls d _ H => E cls d H) := takes_of rfl rfl rfl rfl
      have hb := hbody X (fun cls d _ H => E cls d H) rfl rfl rfl rfl rfl ⟨rfl, rfl, rfl, fun _ => rfl, hr, tk, passes_of rfl, rfl, rfl⟩
      -- the state with the new instance
      have hx : H x = some (.ins C dx []) := by rw [eH, upd_same]
      have old : ∀ {a o}, H1 a = some o → H a = some o := fun {a o} q => by
        rw [eH, upd_ne (ne_of_none q h1), upd_ne (ne_of_none q h2)]; exact q
      let g0 : G := ⟨g.F, g.T, fun _ => x⟩
      have nF : ¬ g.F x := fun z => by obtain ⟨o, q⟩ := htr x (Or.inl z); rw [h1] at q; cases q
      have nT : ¬ g.T x := fun z => by obtain ⟨o, q⟩ := htr x (Or.inr z); rw [h1] at q; cases q
      have al : ∀ {i : Nat}, Al [some (Kd.ins c [], ([] : List PV))] i → i = 0 := fun {i} ⟨q, e⟩ => by
        cases i with
        | zero => rfl
        | succ i => simp at e
      have rel : Rel ⟨K, mg⟩ H g0 [some (.ins c [], [])] := by
        refine ⟨fun i kd xs e => ?_, fun i j hi hj _ => (al hi).trans (al hj).symm, fun i _ => nF, fun i _ => nT, fun a z => ?_⟩
        · obtain rfl := al ⟨_, e⟩
          simp only [List.getElem?_cons_zero, Option.some.injEq, Prod.mk.injEq] at e
          obtain ⟨rfl, rfl⟩ := e
          exact ⟨_, [], hx, ⟨C, dx, hm, rfl, rfl⟩, (by intro z; cases z), RVs.nil⟩
        · obtain ⟨o, q⟩ := htr a z
          exact ⟨o, old q⟩
      have up : Up H1 g 0 H g0 1 := ⟨fun a o q _ => old q, fun _ q => q, fun _ q => q, fun i hi => absurd hi (Nat.not_lt_zero _), Nat.zero_le _⟩
      have rv2 : RVs ⟨K, mg⟩ H g0 1 (.ref 0 :: qs) (.ref x :: ws) := RVs.cons (by simp only [RV]; exact ⟨Nat.zero_lt_one, rfl⟩) (RVs.mono up _ _ rv)
      refine ⟨_, hb, g0, _, [some (.ins c [], [])], rel, start_rg (N := N) (n := 0) rv2, ?_⟩
      have gro : ∀ {H' : Hp} {g' : G} {S' : Sto}, Ext ⟨K, mg⟩ H g0 [some (.ins c [], [])] H' g' S' → Gro H1 g H' (endF g' S') := fun {H' g' S'} e => by
        have inH1 : ∀ a, H a = none → H1 a = none := fun a q => by
          cases z : H1 a with
          | none => rfl
          | some o => rw [old z] at q; cases q
        refine ⟨fun a h => Or.inl (e.fr a h), fun a o h => e.frame a o (old h) fun i hi z => ?_, fun a h => ?_, fun a h => ?_⟩
        · have z : x = a := z
          subst z; rw [h1] at h; cases h
        · rcases h with h | ⟨i, hi, rfl⟩
          · exact e.rel.tr a (Or.inl h)
          · exact e.rel.tracked hi
        · rcases h with h | ⟨i, hi, rfl⟩
          · rcases e.nf a h with z | z | ⟨i, _, z⟩
            · exact Or.inl z
            · exact Or.inr (inH1 a z)
            · have z : x = a := z
              subst z; exact Or.inr h1
          · rcases e.old i hi with ⟨_, z⟩ | z
            · rw [z]; exact Or.inr h1
            · exact Or.inr (inH1 _ z)
      have cu : ∀ {H' : Hp} {g' : G} {S' : Sto}, CUp H' g' H' (Gp (endF g' S')) := fun {H' g' S'} => ⟨fun _ _ h _ => h, fun _ h => Or.inl h⟩
      have fin : ∀ {H' : Hp} {g' : G} {S' : Sto}, OKi ⟨K, mg⟩ H1 g x (resP S' (.ref 0)) Q E → Ext ⟨K, mg⟩ H g0 [some (.ins c [], [])] H' g' S' → Q .non H' := fun {H' g' S'} h e => by
        unfold resP at h
        split at h
        · rename_i q eq
          have r0 : RV ⟨K, mg⟩ H' g' S'.length (.ref 0) (.ref x) := by
            simp only [RV]
            exact ⟨Nat.lt_of_lt_of_le Nat.zero_lt_one e.len, by rw [e.rho 0 Nat.zero_lt_one]⟩
          exact h H' _ (gro e) (frzV_ok e.rel 9 _ _ q r0 eq)
        · exact h.elim
      have eΓ : List.map some (PV.ref 0 :: qs) ++ List.replicate (N.length - (PV.ref 0 :: qs).length) none = some (.ref 0) :: (qs.map some ++ List.replicate (N.length - (qs.length + 1)) none) := by simp
      rw [eΓ]
      generalize eb : body (some (.ref 0) :: (qs.map some ++ List.replicate (N.length - (qs.length + 1)) none)) [some (.ins c [], [])] = r at ok
      cases r with
      | nx Γ' S' => exact fun g' H' σ' e1 _ => fin ok e1
      | rt v S' =>
        cases v with
        | non =>
          intro g' H' v' e1 rvv
          rw [rvv.non_inv]
          exact fin ok e1
        | _ => exact ok.elim
      | ex c' fs Γ' S' =>
        intro g' H' σ' cls d e1 _ rx
        have h3 : OKi ⟨K, mg⟩ H1 g x (if cleans (fs.map (·.2)) = true then .ex c' fs else .bad) Q E := ok
        split at h3
        · rename_i cl
          refine h3 H' _ cls d (gro e1) ?_
          obtain ⟨q1, q2⟩ := rx
          refine ⟨q1, ?_⟩
          rcases q2 with q2 | ⟨dx', vs, z1, z2, z3⟩
          · exact Or.inl q2
          · exact Or.inr ⟨dx', vs, z1, z2, RVs.clean cu _ _ cl z3⟩
        · exact h3.elim
      | bk Γ' S' => exact ok.elim
      | ct Γ' S' => exact ok.elim
      | bad => exact ok.elim
    · exact ok.elim
/-- a class that may be called by its name, with so many arguments; dps: what fills up -/
structure Mka (P : Program) (w : World) (K : PySem.W.Frag) (mg : Str → Option Value) (base : Heap) (k : Nat) (c : Str) (f : List PV → RP) (m : Nat) (dps : List PV) : Prop where
  ex : ∃ (C fI : Addr) (fd : FuncData) (ps : List Str) (dvs : List V) (ds : List Value), L2.Mk K C fI ∧ FnOk P w K mg base (L2.CX P w) k fI fd ps (spI ⟨K, mg⟩ c f) ∧ mg c = some (.ref C) ∧ Binds K fd ps ds ∧ Vals dvs ds ∧ ps.length = m + 1 + ds.length ∧ ∀ H g, RVs ⟨K, mg⟩ H g 0 dps dvs
end
section
variable {X : Cx} {W : WX} {CX : CXT} {k j : Nat} {f C : Addr} {fd : FuncData} {ps : List Str} {sp : Sp} {EE : L2.St → XK} {x : Str} {p pos : Pos} {e : Expr} {es : List Expr} {t : TA} {dvs : List V} {ds : List Value}
/-- C(e, ..), what is raised is wished at the caller's slots -/
theorem pe_makeS (M : L2.Mk X.K C f) (F : FnOk X.prog X.w X.K X.mg X.base CX k f fd ps sp) (hr : Room (k + 1) X.A) (hg : Gl X x) (hm : X.mg x = some (.ref C)) (hb : Binds X.K fd ps ds) (hd : Vals dvs ds) (hx : ∀ σ, PassesAt CX X σ (EE σ))
    (ha : PA X (e :: es) t) (hdb : (x == ("__debug__" : Str)) = false := by decide) (he : starEach (e :: es) X.env = (false, eval e X.env) :: starEach es X.env := by rfl) (hpl : (backTo pos (starEach es X.env)).any (·.1) = false := by rfl) :
    PE X (.Call (.Name x p) (e :: es) [] pos) (fun σ H Q => t σ H fun vs H1 => ∀ y dx, H1 y = none → H1 dx = none → dx ≠ y → sp (.ref y :: (vs ++ dvs)) (upd (upd H1 dx (.own y)) y (.ins C dx [])) (fun v H2 => v = .non ∧ Q (.ref y) H2) (EE σ)) := by
  refine ⟨fun pins s σ H Q inv h => wpAny_Call_Name_kw (ld_glob inv hg hm ?_ hdb)⟩
  refine PySem.W.callWith_K (h₀ := X.base) inv.ok.mod.kin M.kp (thn (ha.run pos pins s σ H _ inv h) fun us s1 ⟨vs, H1, I1, rv, q⟩ => ⟨I1.kIn, ?_⟩) he hpl
  have fr : ∀ {i : Nat}, s1.heap.objs.size ≤ i → H1 i = none := fun {i} hi => I1.hok.fresh hi
  have hq := q (s1.heap.objs.size + 1) s1.heap.objs.size (fr (Nat.le_succ _)) (fr (Nat.le_refl _)) (Nat.ne_of_lt (Nat.lt_succ_self _))
  have I2 := Inv.made (C := C) I1
  have r2 : Vals (V.ref (s1.heap.objs.size + 1) :: (vs ++ dvs)) (Value.ref (s1.heap.objs.size + 1) :: (us ++ ds)) := .cons rfl (rv.append hd)
  have hl : (Value.ref (s1.heap.objs.size + 1) :: us ++ ds).length = ps.length := by
    have e := r2.length
    rw [F.len _ _ _ _ hq] at e
    exact e.symm
  have bind := hb _ (Value.ref (s1.heap.objs.size + 1) :: us) I2.kIn hl
  have body := F.run _ X.stack _ _ ⟨Value.ref (s1.heap.objs.size + 1) :: us, []⟩ (Value.ref (s1.heap.objs.size + 1) :: (us ++ ds)) _ _ (EE σ) (hr.make C us []) (I2.env0.make C us []) bind r2 hq
  refine wpAny_call (make_map (f := f) I1.kIn M.makes M.init (beq_iff_eq.mp M.fn) (codeAny_mono body fun r s' z => ?_))
  cases r with
  | error er => exact hx σ pins _ _ er s' I2 z
  | ok fl =>
    cases fl with
    | ret u =>
      obtain ⟨v, H', I3, r3, rfl, q3⟩ := I2.after z
      exact ⟨r3, ⟨V.ref (s1.heap.objs.size + 1), H', I3, rfl, q3⟩⟩
    | _ => exact False.elim z
end
section
variable {X : Cx} {W : WX} {H H' : Hp} {g g' : G} {S S' : Sto} {k j m : Nat} {x : Str} {p pos : Pos} {e : Expr} {es : List Expr} {tr : AF} {f : List PV → RP} {dps : List PV}
def eMakeP (f : List PV → RP) (m : Nat) (dps : List PV) (t : AF) : EF := fun Γ S => (t Γ S).bind fun ps S1 => if ps.length = m then (match ps.mapM (lendV S1) with
  | some qs => match f (qs ++ dps) with
    | .ok v => .ok v S1
    | .ex c fs => .ex c fs S1
    | .bad => .bad
  | none => .bad) else .bad
theorem E.make (c : Mka X.prog X.w X.K X.mg X.base k x f m dps) (hr : Room j X.A) (tk : Takes X W) (hg : Gl X x) (ha : A X W (e :: es) tr) (hk : k + 1 ≤ j := by decide)
    (hdb : (x == ("__debug__" : Str)) = false := by decide) (he : starEach (e :: es) X.env = (false, eval e X.env) :: starEach es X.env := by rfl) (hpl : (backTo pos (starEach es X.env)).any (·.1) = false := by rfl) :
    E X W (.Call (.Name x p) (e :: es) [] pos) (eMakeP f m dps tr) := by
  obtain ⟨C, fI, fd, ps, dvs, ds, M, F, hm, hb, hd, hl, rd⟩ := c.ex
  refine pe_imp (pe_makeS M F (hr.mono hk) hg hm hb hd (passAt tk) ha hdb he hpl) fun σ H Q ⟨g, Γ, S, rel, rg, ok⟩ => ?_
  refine ⟨g, Γ, S, rel, rg, OKw.mono (OKw.bind ok) fun ps S1 g1 H1 _ e1 h1 xs rxs y dx hy hdx hne => ?_⟩
  split at h1
  · split at h1
    · rename_i qs eq
      have htr : ∀ a, (lendG g1 S1).F a ∨ (lendG g1 S1).T a → ∃ o, H1 a = some o := fun a z => by
        rcases z with z | z | ⟨n, hn, rfl⟩
        · exact e1.rel.tr a (Or.inl z)
        · exact e1.rel.tr a (Or.inr z)
        · exact e1.rel.tracked hn
      refine ⟨H1, y, dx, C, xs ++ dvs, lendG g1 S1, qs ++ dps, rfl, hm, hy, hdx, hne, rfl, (mapM_rv (fun p x q h e => lendV_ok e1.rel h e) rxs eq).append (rd _ _), htr, ?_⟩
      have cu : ∀ {H' : Hp} {F' : Addr → Prop}, Up H' (Gp F') 0 H' ⟨F', g1.T, g1.r⟩ S1.length := fun {H' F'} => ⟨fun _ _ h _ => h, fun _ h => h, fun _ h => False.elim h, fun n h => absurd h (Nat.not_lt_zero n), Nat.zero_le _⟩
      split at h1
      · rename_i v ev
        rw [ev]
        exact fun H' F' u rv => ⟨rfl, h1 _ _ (u.ext e1.rel) (.ref y) (RV.mono cu _ _ rv)⟩
      · rename_i c fs ev
        rw [ev]
        exact fun H' F' cls d u rx => h1 _ _ cls d (u.ext e1.rel) (rx.mono cu)
      · exact h1.elim
    · exact h1.elim
  · exact h1.elim
end
end Pv

/-! Pv23: a written dict's .get, insert, chains of three. -/
namespace Pv
open PySem PySem.Spec PyProof.Rows L2
section
variable {X : Cx} {W : WX} {H H' H'' : Hp} {g g' : G} {S S' : Sto} {σ : L2.St} {Γ : Gam}
/-! ### NAME.get(e, f) of a dict of the module -/
def tWGet (K : PySem.W.Frag) (w : World) (td ty tx : TE) : TE := fun σ H Q => td σ H fun x H1 => ∃ a es n, x = .ref a ∧ KDict K w a es n ∧ ty σ H1 fun y H2 => tx σ H2 fun z H3 => ∃ s r, y = .str s ∧ PySem.W.nsIn K a s = some r ∧
  (match r with | some u => ∃ v, RelV v u ∧ Q v H3 | none => Q z H3)
theorem pe_wget {o e f : Expr} {apos cpos : Pos} {td ty tx : TE} (ho : PE X o td) (he : PE X e ty) (hf : PE X f tx) (m : M2 X o "get" apos e f cpos) : PE X (.Call (.Attribute o "get" apos) [e, f] [] cpos) (tWGet X.K X.w td ty tx) := by
  refine ⟨fun pins s σ H Q I h => ?_⟩
  refine wpAny_Call_method m.base m.few m.line PySem.F.plainAttrs_dict PySem.F.slot_dict_get PySem.F.type_dict_get (thn (ho.run pins s σ H _ I h) fun u s1 ⟨x, H1, I1, rx, a, es, n, ex, D, q1⟩ => ?_)
  subst ex
  obtain rfl : u = Value.ref a := rx
  have hm := PySem.W.mapOf_K (prog := X.prog) (w := X.w) I1.kIn D.at_ D.lit
  refine ⟨hm.typeIs, fun b q => ?_, ?_⟩
  · cases q
    exact ⟨_, I1.kIn _ _ D.at_, rfl⟩
  rw [m.trees]
  refine Calls.callWith_builtin rfl (Calls.evalArgs_plain (Calls.spliced_cons (thn (he.run pins s1 σ H1 _ I1 q1) fun iv s2 ⟨y, H2, I2, ry, q2⟩ =>
    Calls.spliced_cons (thn (hf.run pins s2 σ H2 _ I2 q2) fun fv s3 ⟨z, H3, I3, rz, t, r, ey, hn, q3⟩ => Calls.spliced_nil ?_))))
  subst ey
  obtain ⟨tk, rfl⟩ : ∃ tk, iv = .str t tk := ry
  have hm3 := PySem.W.mapOf_K (prog := X.prog) (w := X.w) I3.kIn D.at_ D.lit
  refine call_meetsIn PySem.F.slot_dict_get hm3.typeIs PySem.F.entry_dict_get (PySem.F.args_dict_get_3 _ _ _) (meets_dict_get_default (strKind X.prog X.w) a (strKind_is X.prog X.w t tk) D.low fv) ⟨_, hm3, ?_⟩
  rw [PySem.W.find_K D.at_ hn]
  cases r with
  | none => exact ⟨z, H3, I3.tok _, rz, q3⟩
  | some u =>
    obtain ⟨v, rv, q⟩ := q3
    exact ⟨v, H3, I3.tok _, rv, q⟩
/-- a dict of the module: text keys, ints -/
structure WMap (K : PySem.W.Frag) (w : World) (mg : Str → Option Value) (x : Str) (kvs : List (Str × Int)) : Prop where
  ex : ∃ a es n, mg x = some (.ref a) ∧ KDict K w a es n ∧ ∀ z, ∃ r, PySem.W.nsIn K a z = some r ∧ (match kvs.lookup z with | some i => ∃ t, r = some (.int i t) | none => r = none)
def mgetV (kvs : List (Str × Int)) (s : Str) (q : PV) : PV := match kvs.lookup s with
  | some i => .int i
  | none => q
def mgetF (kvs : List (Str × Int)) : OF := fun p q S => match p with
  | .str s => some (mgetV kvs s q, S)
  | _ => none
@[simp] theorem mgetF_str {kvs : List (Str × Int)} {s : Str} {q : PV} : mgetF kvs (.str s) q S = some (mgetV kvs s q, S) := (rfl)
theorem E.wget {x : Str} {kvs : List (Str × Int)} {e f : Expr} {te tf : EF} {p ap cp : Pos} (hg : Gl X x) (hm : WMap X.K X.w X.mg x kvs) (he : E X W e te) (hf : E X W f tf) (hd : (x == ("__debug__" : Str)) = false := by decide)
    (m : M2 X (.Name x p) "get" ap e f cp := by exact ⟨rfl, rfl, rfl, rfl⟩) : E X W (.Call (.Attribute (.Name x p) "get" ap) [e, f] [] cp) (eOp (mgetF kvs) te tf) := by
  obtain ⟨a, es, n, h1, h2, h3⟩ := hm.ex
  refine pe_imp (pe_wget (pe_glob (v := .ref a) hg h1 rfl hd) he hf m) fun σ H Q ⟨g, Γ, S, rel, rg, ok⟩ => ?_
  refine ⟨a, es, n, rfl, h2, g, Γ, S, rel, rg, OKw.mono (OKw.bind ok) fun p1 S1 g1 H1 _ e1 k1 y ry => ?_⟩
  have rg1 := rg.up rel e1
  refine ⟨g1, Γ, S1, e1.rel, rg1, OKw.mono (OKw.bind k1) fun q S2 g2 H2 _ e2 k2 z rz => ?_⟩
  have ry2 := RV.up e1.rel e2 _ _ ry
  cases p1 with
  | str s =>
    obtain ⟨r, hr, hl⟩ := h3 s
    refine ⟨s, r, ry2.str_inv, hr, ?_⟩
    have k2 : OKw X W σ H2 g2 S2 (.ok (mgetV kvs s q) S2) _ := k2
    unfold mgetV at k2
    cases ei : kvs.lookup s with
    | some i =>
      rw [ei] at k2 hl
      obtain ⟨t, rfl⟩ := hl
      exact ⟨.int i, ⟨t, rfl⟩, OKw.ok e2.rel k2 _ RV.int⟩
    | none =>
      rw [ei] at k2 hl
      have hl : r = none := hl
      subst hl
      exact OKw.ok e2.rel k2 _ rz
  | _ => exact k2.elim
/-- the check of such a dict -/
def relK : List DictEntry → List (Str × Int) → Bool
  | [], [] => true
  | e :: es, (k, i) :: kvs => (match e.key with | .str x _ => decide (x = k) | _ => false) && ((match e.val with | .int j _ => decide (j = i) | _ => false) && relK es kvs)
  | _, _ => false
theorem relK_get {z : Str} : ∀ {es : List DictEntry} {kvs : List (Str × Int)}, relK es kvs = true → (es.any (·.refKey) = false) ∧ (match kvs.lookup z with | some i => ∃ e t, es.find? (·.key.isStr z) = some e ∧ e.val = .int i t | none => es.find? (·.key.isStr z) = none)
  | [], [], _ => ⟨rfl, rfl⟩
  | [], _ :: _, h => by cases h
  | _ :: _, [], h => by cases h
  | e :: es, (k, i) :: kvs, h => by
    obtain ⟨h1, h⟩ := He.ba (show ((match e.key with | .str x _ => decide (x = k) | _ => false) && ((match e.val with | .int j _ => decide (j = i) | _ => false) && relK es kvs)) = true from h)
    obtain ⟨h2, h3⟩ := He.ba h
    obtain ⟨q1, q2⟩ := relK_get h3
    split at h1
    · rename_i x tx ek
      split at h2
      · rename_i j tj ev
        have h1 := of_decide_eq_true h1
        have h2 := of_decide_eq_true h2
        subst h1 h2
        refine ⟨?_, ?_⟩
        · rw [List.any_cons, q1]
          simp [DictEntry.refKey, ek]
        · rw [List.lookup_cons]
          by_cases zx : z = x
          · subst zx
            simp only [BEq.rfl]
            exact ⟨e, tj, by rw [List.find?_cons, ek]; simp [Value.isStr], ev⟩
          · have z1 : (z == x) = false := by simpa using zx
            rw [z1]
            have z2 : e.key.isStr z = false := by rw [ek]; simp [Value.isStr]; exact fun h => zx h.symm
            simp only [List.find?_cons, z2]
            exact q2
      · cases h2
    · cases h1
def mapB (K : PySem.W.Frag) (x : Str) (kvs : List (Str × Int)) : Bool := match K.lookup (He.ga K x) with
  | some ⟨_, _, .dict es _, _⟩ => relK es.toList kvs
  | _ => false
theorem mapB_ok {K : PySem.W.Frag} {w : World} {h : Heap} {mg : Str → Option Value} {x : Str} {kvs : List (Str × Int)} (Y : K.In h) (G : h.Ns mainGlobals mg) (c : (He.Fa.glo x).ok K = true) (d : ∃ es n, KDict K w (He.ga K x) es n) (q : mapB K x kvs = true) : WMap K w mg x kvs := by
  obtain ⟨es, n, D⟩ := d
  refine ⟨_, es, n, He.glo_ok Y G c, D, fun z => ?_⟩
  unfold mapB at q
  rw [D.at_] at q
  have q : relK es.toList kvs = true := q
  obtain ⟨q1, q2⟩ := relK_get (z := z) q
  unfold PySem.W.nsIn
  rw [D.at_]
  dsimp only
  split at q2
  · obtain ⟨e, t, h1, h2⟩ := q2
    rw [h1]
    exact ⟨_, rfl, t, by rw [h2]⟩
  · rw [q2, q1]
    exact ⟨none, rfl, rfl⟩
/-! ### insert -/
def insertF : MF := lstF fun xs ps => match ps with
  | [.int i, v] => if xs.length < sizeLine ∧ 0 ≤ i ∧ i < 9223372036854775808 then some (.non, xs.take i.toNat ++ [v] ++ xs.drop i.toNat) else none
  | _ => none
@[simp] theorem insertF_eq : insertF = lstF fun xs ps => match ps with
  | [.int i, v] => if xs.length < sizeLine ∧ 0 ≤ i ∧ i < 9223372036854775808 then some (.non, xs.take i.toNat ++ [v] ++ xs.drop i.toNat) else none
  | _ => none := (rfl)
theorem RVs.drop' {Y : Kx} {L : Nat} {xs : List PV} {vs : List V} (n : Nat) (h : RVs Y H g L xs vs) : RVs Y H g L (xs.drop n) (vs.drop n) := h.drop n
theorem mtf_insert : MtF X (fun x vs H Q => ∃ (l : Addr) (xs : List V) (i : Int) (y : V), x = .ref l ∧ vs = [.int i, y] ∧ H l = some (.lst xs) ∧ xs.length < sizeLine ∧ 0 ≤ i ∧ i < 2 ^ 63 ∧
    Q .non (upd H l (.lst (xs.take i.toNat ++ [y] ++ xs.drop i.toNat)))) insertF := by
  intro H g S p ps x xs w S' Q rel rx rxs h k
  obtain ⟨n, ys, vs, ys', rfl, rfl, hn, hH, hr, hf, rfl⟩ := lstF_inv rel rx h
  split at hf
  · split at hf
    · rename_i i v hl
      cases hf
      simp only [RVs] at rxs
      obtain ⟨u, r, rfl, h2, u2, r2, rfl, h3, rfl⟩ := rxs
      obtain rfl := h2.int_inv
      exact ⟨g.r n, vs, i, u2, rfl, rfl, hH, by rw [← hr.len]; exact hl.1, hl.2.1, by have := hl.2.2; omega, k g _ _ (set_ok (k' := .lst) rel hn (o' := .lst (vs.take i.toNat ++ [u2] ++ vs.drop i.toNat)) rfl (by decide) (((hr.take _).append (RVs.cons h3 RVs.nil)).append (hr.drop _))) RV.non⟩
    · cases hf
  · cases hf
/-! ### a op b op c op d, whole numbers, as a test -/
def ch3K3 (f : Int → Int → Bool) (k : Int) (r : R PV) : R Bool := r.bind fun w S4 => match w with
  | .int l => .ok (f k l) S4
  | _ => .bad
def ch3K2 (f f' : Int → Int → Bool) (j : Int) (td : EF) (Γ : Gam) (r : R PV) : R Bool := r.bind fun z S3 => match z with
  | .int k => if f j k = true then ch3K3 f' k (td Γ S3) else .ok false S3
  | _ => .bad
def ch3K1 (f f' f'' : Int → Int → Bool) (x : PV) (tc td : EF) (Γ : Gam) (r : R PV) : R Bool := r.bind fun y S2 => match x, y with
  | .int i, .int j => if f i j = true then ch3K2 f' f'' j td Γ (tc Γ S2) else .ok false S2
  | _, _ => .bad
def ch3K0 (f f' f'' : Int → Int → Bool) (tb tc td : EF) (Γ : Gam) (r : R PV) : R Bool := r.bind fun x S1 => ch3K1 f f' f'' x tc td Γ (tb Γ S1)
def bCh3 (f f' f'' : Int → Int → Bool) (ta tb tc td : EF) : BF := fun Γ S => ch3K0 f f' f'' tb tc td Γ (ta Γ S)
section
variable {f f' f'' : Int → Int → Bool} {ta tb tc td : EF} {x : PV} {i j k l : Int}
@[simp] theorem bCh3_eq : bCh3 f f' f'' ta tb tc td Γ S = ch3K0 f f' f'' tb tc td Γ (ta Γ S) := (rfl)
@[simp] theorem ch3K0_ok : ch3K0 f f' f'' tb tc td Γ (.ok x S) = ch3K1 f f' f'' x tc td Γ (tb Γ S) := (rfl)
@[simp] theorem ch3K1_ok : ch3K1 f f' f'' (.int i) tc td Γ (.ok (.int j) S) = if f i j = true then ch3K2 f' f'' j td Γ (tc Γ S) else .ok false S := (rfl)
@[simp] theorem ch3K2_ok : ch3K2 f f' j td Γ (.ok (.int k) S) = if f j k = true then ch3K3 f' k (td Γ S) else .ok false S := (rfl)
@[simp] theorem ch3K3_ok : ch3K3 f k (.ok (.int l) S) = .ok (f k l) S := (rfl)
end
def tCh3 (f f' f'' : Int → Int → Bool) (ta tb tc td : TE) : TT := fun σ H Q => ta σ H fun x H1 => tb σ H1 fun y H2 => ∃ i j : Int, x = .int i ∧ y = .int j ∧ (if f i j = true then tc σ H2 fun z H3 => ∃ k : Int, z = .int k ∧
  (if f' j k = true then td σ H3 fun u H4 => ∃ l : Int, u = .int l ∧ Q (f'' k l) H4 else Q false H3) else Q false H2)
theorem pt_chain3 {o o' o'' : CmpOp} {f f' f'' : Int → Int → Bool} {a b c d : Expr} {ta tb tc td : TE} {pos : Pos} (ho : OpR X (compareOp o) (rI0 fun i j => .bl (f i j))) (ho' : OpR X (compareOp o') (rI0 fun i j => .bl (f' i j))) (ho'' : OpR X (compareOp o'') (rI0 fun i j => .bl (f'' i j)))
    (ha : PE X a ta) (hb : PE X b tb) (hc : PE X c tc) (hd : PE X d td) (hm : lastMarks [o, o', o''] [b, c, d] = false := by with_unfolding_all rfl) : PT X (.Compare a [o, o', o''] [b, c, d] pos) (tCh3 f f' f'' ta tb tc td) := by
  refine ⟨fun pins s σ H Q I h => ?_⟩
  refine isTrue_chain (thn (ha.run pins s σ H _ I h) fun v s1 ⟨x, H1, I1, r1, q1⟩ => test_link (thn (hb.run pins s1 σ H1 _ I1 q1) fun u s2 ⟨y, H2, I2, r2, i, j, ex, ey, q2⟩ => ?_)) hm
  subst ex ey
  refine thn (ho pins s2 σ H2 _ _ v u (fun z H' => z = .bl (f i j) ∧ H' = H2) I2 r1 r2 ⟨i, j, rfl, rfl, rfl, rfl⟩) fun e s3 ⟨z, H3, I3, r3, e1, e2⟩ => ?_
  subst e1 e2
  cases r3
  refine wpAny_truthy_bool ?_
  split at q2
  · rename_i hf
    rw [hf]
    refine ite_tt (test_link (thn (hc.run pins s3 σ _ _ I3 q2) fun w' s4 ⟨z, H4, I4, r4, k, ek, q4⟩ => ?_))
    subst ek
    refine thn (ho' pins s4 σ H4 _ _ u w' (fun z H' => z = .bl (f' j k) ∧ H' = H4) I4 r2 r4 ⟨j, k, rfl, rfl, rfl, rfl⟩) fun e s5 ⟨z, H5, I5, r5, e1, e2⟩ => ?_
    subst e1 e2
    cases r5
    refine wpAny_truthy_bool ?_
    split at q4
    · rename_i hf'
      rw [hf']
      refine ite_tt (test_last (thn (hd.run pins s5 σ _ _ I5 q4) fun w6 s6 ⟨z, H6, I6, r6, l, el, q6⟩ => ?_))
      subst el
      refine thn (ho'' pins s6 σ H6 _ _ w' w6 (fun z H' => z = .bl (f'' k l) ∧ H' = H6) I6 r4 r6 ⟨k, l, rfl, rfl, rfl, rfl⟩) fun e s7 ⟨z, H7, I7, r7, e1, e2⟩ => ?_
      subst e1 e2
      cases r7
      exact wpAny_truthy_bool ⟨_, I7, q6⟩
    · rename_i hf'
      have hf' : f' j k = false := by simpa using hf'
      rw [hf']
      exact ite_ff ⟨_, I5, q4⟩
  · rename_i hf
    have hf : f i j = false := by simpa using hf
    rw [hf]
    exact ite_ff ⟨_, I3, q2⟩
theorem B.chain3 {o o' o'' : CmpOp} {f f' f'' : Int → Int → Bool} {a b c d : Expr} {ta tb tc td : EF} {pos : Pos} (ho : OpR X (compareOp o) (rI0 fun i j => .bl (f i j))) (ho' : OpR X (compareOp o') (rI0 fun i j => .bl (f' i j))) (ho'' : OpR X (compareOp o'') (rI0 fun i j => .bl (f'' i j)))
    (ha : E X W a ta) (hb : E X W b tb) (hc : E X W c tc) (hd : E X W d td) (hm : lastMarks [o, o', o''] [b, c, d] = false := by with_unfolding_all rfl) : B X W (.Compare a [o, o', o''] [b, c, d] pos) (bCh3 f f' f'' ta tb tc td) := by
  refine pt_imp (pt_chain3 ho ho' ho'' ha hb hc hd hm) fun σ H Q ⟨g, Γ, S, rel, rg, ok⟩ => ?_
  refine ⟨g, Γ, S, rel, rg, OKw.mono (OKw.bind ok) fun p1 S1 g1 H1 _ e1 k1 x rx => ?_⟩
  have rg1 := rg.up rel e1
  refine ⟨g1, Γ, S1, e1.rel, rg1, OKw.mono (OKw.bind k1) fun p2 S2 g2 H2 _ e2 k2 y ry => ?_⟩
  have rg2 := rg1.up e1.rel e2
  cases p1 with
  | int i =>
    cases p2 with
    | int j =>
      refine ⟨i, j, (RV.up e1.rel e2 _ _ rx).int_inv, ry.int_inv, ?_⟩
      have k2 : OKw X W σ H2 g2 S2 (if f i j = true then ch3K2 f' f'' j td Γ (tc Γ S2) else .ok false S2) _ := k2
      split at k2
      · rename_i hf
        rw [if_pos hf]
        refine ⟨g2, Γ, S2, e2.rel, rg2, OKw.mono (OKw.bind k2) fun p3 S3 g3 H3 _ e3 k3 z rz => ?_⟩
        have rg3 := rg2.up e2.rel e3
        cases p3 with
        | int k =>
          refine ⟨k, rz.int_inv, ?_⟩
          have k3 : OKw X W σ H3 g3 S3 (if f' j k = true then ch3K3 f'' k (td Γ S3) else .ok false S3) _ := k3
          split at k3
          · rename_i hf'
            rw [if_pos hf']
            refine ⟨g3, Γ, S3, e3.rel, rg3, OKw.mono (OKw.bind k3) fun p4 S4 g4 H4 _ e4 k4 u ru => ?_⟩
            cases p4 with
            | int l => exact ⟨l, ru.int_inv, OKw.ok e4.rel k4⟩
            | _ => exact k4.elim
          · rename_i hf'
            rw [if_neg hf']
            exact OKw.ok e3.rel k3
        | _ => exact k3.elim
      · rename_i hf
        rw [if_neg hf]
        exact OKw.ok e2.rel k2
    | _ => exact k2.elim
  | _ => exact k2.elim
end
end Pv

/-! Pv24: classes that may be called; len of an own instance. -/
namespace Pv
open PySem PySem.Spec PyProof.Rows L2
section
variable {K : PySem.W.Frag}
/-- a default that is an empty tuple -/
def dfTB (K : PySem.W.Frag) (f : Str × Option Str) (i : Nat) : Bool := match K.lookup (He.dflAt f i K) with
  | some ⟨.type c, _, .seq its _, _⟩ => decide (c = "tuple") && its.isEmpty
  | _ => false
theorem dfT_ok {mg : Str → Option Value} {f : Str × Option Str} {i : Nat} (h : dfTB K f i = true) (H : Hp) (g : G) (L : Nat) : RV ⟨K, mg⟩ H g L (.con .out .tup []) (.ref (He.dflAt f i K)) := by
  simp only [RV]
  refine ⟨_, [], rfl, Or.inr ?_, RVs.nil⟩
  unfold dfTB at h
  split at h
  · rename_i c d its n sl e
    obtain ⟨h1, h2⟩ := He.ba h
    have h1 := of_decide_eq_true h1
    subst h1
    have h2 : its = #[] := Array.isEmpty_iff.mp h2
    subst h2
    exact ⟨_, #[], n, e, rfl, rfl, by simp, .nil⟩
  · cases h
end
section
variable {X : Cx} {k : Nat} {C fI : Addr} {fd : FuncData} {ps : List Str} {sp : Sp}
theorem pass_no : Passes (L2.CX X.prog X.w) X (fun _ _ _ => False) := fun _ _ _ _ _ _ _ c => by
  obtain ⟨_, _, _, _, _, _, _, _, _, _, _, _, h⟩ := c
  exact h.elim
theorem call_lenO (F : FnOk X.prog X.w X.K X.mg X.base (L2.CX X.prog X.w) k fI fd ps sp) (hr : Room (k + 1) X.A) (hs : PySem.W.findIn X.K (.ref C) "__len__" = some (some (.ref fI))) (hf : PySem.W.isFn X.K (.ref fI) = true) (hb : Binds X.K fd ps []) :
    CallR X (.builtin "len") (fun xs H Q => ∃ a dx fs, xs = [V.ref a] ∧ H a = some (.ins C dx fs) ∧ sp [.ref a] H (fun v H' => ∃ n : Int, v = .int n ∧ 0 ≤ n ∧ n < 2 ^ 63 ∧ Q (.int n) H') (fun _ _ _ => False)) := by
  intro pins s σ H xs us Q I r h
  obtain ⟨a, dx, fs, rfl, ea, q⟩ := h
  obtain ⟨u, rfl, ru⟩ := vals1 r
  obtain rfl : u = Value.ref a := ru
  obtain ⟨mA, O, _, _, _, _⟩ := ins_get I.hok ea
  obtain ⟨od, J, _⟩ := O.look
  have hl : [Value.ref a].length = ps.length := by
    rw [← F.len _ _ _ _ q]
    rfl
  have run : wpAny (model X.prog X.w) X.A.in1 (call (.ref fI) [.ref a]) (fun v s' => ∃ (n : Int) (t : Tok), v = .int n t ∧ 0 ≤ n ∧ n < 2 ^ 63 ∧ ∃ H', Inv X pins σ H' s' ∧ Q (.int n) H') X.xe s := by
    refine wpAny_call (codeAny_mono (F.run X.A.in1 X.stack s H ⟨[.ref a], []⟩ [.ref a] [.ref a] _ _ hr.in1 I.env0.in1 (hb _ [.ref a] I.kIn hl) (.cons rfl .nil) q) fun r s' hq => ?_)
    cases r with
    | error er =>
      obtain ⟨_, _, _, _, _, _, _, _, _, _, _, _, h⟩ := hq
      exact h.elim
    | ok fl =>
      cases fl with
      | ret u =>
        obtain ⟨v, H', I3, rv, n, rfl, h0, h1, q3⟩ := I.after hq
        obtain ⟨t, rfl⟩ : ∃ t, u = Value.int n t := rv
        exact ⟨n, t, rfl, h0, h1, H', I3, q3⟩
      | next => exact False.elim hq
      | brk => exact False.elim hq
      | cont => exact False.elim hq
  refine Calls.call_function_entry kind_len plain_len entry_len (args_len1 _) ?_
  unfold Builtin.«len»
  refine wpAny_bind (m := oneArg "len" _) (wpAny_pure ?_)
  refine wpAny_bind (m := callSpecial? (.ref a) (Str.ofString "__len__")) (PySem.W.special_fn I.kIn J hs (beq_iff_eq.mp hf) (wpAny_mono run (fun r s' hr => ?_) fun _ _ y => y))
  obtain ⟨n, t, rfl, h0, h1, H', I', q'⟩ := hr
  refine wpAny_bind (wpAny_holding (wpAny_pure ?_))
  refine wpAny_bind (wpAny_letGo ?_)
  show wpAny _ _ (if n < 0 then _ else _) _ _ _
  rw [if_neg (by omega)]
  show wpAny _ _ (if n ≥ 2 ^ 63 then _ else _) _ _ _
  rw [if_neg (by omega)]
  exact wpAny_bind (wpAny_mkInt (wpAny_pure ⟨_, rfl, .int n, H', I'.tok _, ⟨_, rfl⟩, q'⟩))
end
/-- a class with its own __len__ -/
structure LenT (P : Program) (w : World) (K : PySem.W.Frag) (mg : Str → Option Value) (base : Heap) (k : Nat) (c : Str) (f : List PV → RP) : Prop where
  ex : ∃ (C fI : Addr) (fd : FuncData) (ps : List Str), mg c = some (.ref C) ∧ PySem.W.findIn K (.ref C) "__len__" = some (some (.ref fI)) ∧ PySem.W.isFn K (.ref fI) = true ∧ FnOk P w K mg base (L2.CX P w) k fI fd ps (spP ⟨K, mg⟩ f) ∧ Binds K fd ps []
def lenOF (c : Str) (f : List PV → RP) (S : Sto) (p : PV) : Option (Kd × List PV) → Option (PV × Sto)
  | some (.ins c' _, _) => if c' = c then (match lendV S p with
    | some q => (match f [q] with
      | .ok (.int n) => if 0 ≤ n ∧ n < 9223372036854775808 then some (.int n, S) else none
      | _ => none)
    | none => none) else none
  | _ => none
def lenF2 (c : Str) (f : List PV → RP) : CF := fun ps S => match lenF ps S with
  | some r => some r
  | none => match ps with
    | [p] => lenOF c f S p (derefH S p)
    | _ => none
section
variable {X : Cx} {k : Nat} {c : Str} {f : List PV → RP} {S : Sto} {W : WX} {e : Expr} {es : List Expr} {tr : AF} {p pos : Pos} {j : Nat}
theorem E.len2 (t : LenT X.prog X.w X.K X.mg X.base k c f) (hr : Room j X.A) (hg : Gl X "len") (hm : X.mg "len" = none) (ha : A X W [e] tr) (hk : k + 1 ≤ j := by decide)
    (hdb : (("len" : Str) == ("__debug__" : Str)) = false := by decide) (he : starEach [e] X.env = (false, eval e X.env) :: starEach [] X.env := by rfl) : E X W (.Call (.Name "len" p) [e] [] pos) (eCall (lenF2 c f) tr) := by
  obtain ⟨C, fI, fd, ps, hc, h1, h2, F, b⟩ := t.ex
  refine E.callB (CallR.or cr_len (call_lenO F (hr.mono hk) h1 h2 b)) (fun H g S qs xs w S' Q rel rx h k => ?_) hg hm (by decide +kernel) ha (he := he)
  unfold lenF2 at h
  split at h
  · rename_i r hl
    cases h
    exact Or.inl (cf_len H g S qs xs w S' Q rel rx hl k)
  · split at h
    · rename_i q _
      simp only [RVs] at rx
      obtain ⟨x, r, rfl, rx, rfl⟩ := rx
      unfold lenOF at h
      split at h
      · rename_i c' ns ys ed
        split at h
        · rename_i ec
          subst ec
          split at h
          · rename_i q2 el
            split at h
            · rename_i n ef
              split at h
              · rename_i hn
                cases h
                obtain ⟨a, vs, o, rfl, g2, g3, g4⟩ := derefH_ok rel rx ed
                obtain ⟨C', dx, hm', hl', rfl⟩ := g3
                have : some (Value.ref C) = some (.ref C') := hc.symm.trans hm'
                cases this
                refine Or.inr ⟨a, dx, _, rfl, g4, lendG g S, [q2], RVs.cons (lendV_ok rel rx el) RVs.nil, fun a z => ?_, ?_⟩
                · rcases z with z | z | ⟨n, hn, rfl⟩
                  · exact rel.tr a (Or.inl z)
                  · exact rel.tr a (Or.inr z)
                  · exact rel.tracked hn
                · rw [ef]
                  exact fun H' F' x u rv => ⟨n, rv.int_inv, hn.1, by have := hn.2; omega, k _ _ _ (u.ext rel) RV.int⟩
              · cases h
            · cases h
          · cases h
        · cases h
      · cases h
    · cases h
end
section
variable {c : Str} {f : List PV → RP} {S : Sto} {m : Md} {ps : List PV}
@[simp] theorem lenF2_lst : lenF2 c f [.con m .lst ps] S = some (.int ps.length, S) := (rfl)
@[simp] theorem lenF2_tup : lenF2 c f [.con m .tup ps] S = some (.int ps.length, S) := (rfl)
theorem lenF2_ref {n : Nat} (h : S[n]? = some (some (.lst, ps))) : lenF2 c f [.ref n] S = some (.int ps.length, S) := by unfold lenF2; rw [lenF_ref h]
end
end Pv
namespace Pv
theorem atts_nil {K : PySem.W.Frag} {mg : PySem.Str → Option PySem.Value} {f : PySem.Str} : ∀ c ∈ ([] : List PySem.Str), AttT K mg c f := fun _ h => absurd h (List.not_mem_nil)
theorem atts_cons {K : PySem.W.Frag} {mg : PySem.Str → Option PySem.Value} {c f : PySem.Str} {cs : List PySem.Str} (h : AttT K mg c f) (r : ∀ d ∈ cs, AttT K mg d f) : ∀ d ∈ c :: cs, AttT K mg d f := fun d m => by
  rcases List.mem_cons.mp m with m | m
  · subst m; exact h
  · exact r d m
end Pv

/-! Pv25: enumerate of a list that stands still. -/
namespace Pv
open PySem PySem.Spec PyProof.Rows L2
def enumF : Nat → List PV → List PV
  | _, [] => []
  | i, x :: xs => .con .own .tup [.int i, x] :: enumF (i + 1) xs
theorem enumF_len : ∀ {xs : List PV} {i : Nat}, (enumF i xs).length = xs.length
  | [], _ => rfl
  | x :: xs, i => by simp only [enumF, List.length_cons, enumF_len]
theorem enumF_get : ∀ {xs : List PV} {i j : Nat}, (enumF i xs)[j]? = (xs[j]?).map fun x => .con .own .tup [.int (i + j : Nat), x]
  | [], i, j => by simp [enumF]
  | x :: xs, i, 0 => by simp [enumF]
  | x :: xs, i, j + 1 => by
    simp only [enumF, List.getElem?_cons_succ]
    rw [enumF_get, show i + 1 + j = i + (j + 1) from by omega]
def iED : PV → Option (Stp × Nat)
  | .con _ .lst xs => some (stL (enumF 0 xs), (enumF 0 xs).length + 1)
  | _ => none
def iE (t : EF) : IF := fun Γ S => (t Γ S).bind fun p S1 => match iED p with
  | some q => .ok q S1
  | none => .bad
section
variable {X : Cx} {W : WX} {H H' : Hp} {g g' : G} {S S' : Sto} {σ : L2.St} {Γ : Gam}
theorem jok_enum {Y : Kx} {m : Md} {xs : List PV} {v : V} (rel : Rel Y H g S) (rv : RV Y H g S.length (.con m .lst xs) v) : ∃ a, v = .ref a ∧ (∃ vs, SqL Y.K H a vs) ∧ JOK Y (Ite Y.K a) (stL (enumF 0 xs)) H g S := by
  have rv0 := rv
  simp only [RV] at rv
  obtain ⟨a, vs, rfl, h2, h3⟩ := rv
  refine ⟨a, rfl, ⟨vs, h2.rdd.lst⟩, fun g' H' S' i e => ?_⟩
  have rv2 := RV.up rel e _ _ rv0
  simp only [RV] at rv2
  obtain ⟨b, ws, eb, q2, q3⟩ := rv2
  cases eb
  have sq := q2.rdd.lst
  refine ⟨fun p hp => ?_, fun hp => ?_⟩
  · have hp : (enumF 0 xs)[i]? = some p := Option.some.inj hp
    rw [enumF_get] at hp
    obtain ⟨x, hx, rfl⟩ := Option.map_eq_some_iff.mp hp
    obtain ⟨y, u1, u2⟩ := q3.get hx
    refine ⟨⟨ws, y, sq, u1⟩, fun u H2 w => ?_⟩
    obtain ⟨T, z, rfl, hT, rfl, hz⟩ := w
    have hz := hz ws sq
    rw [u1] at hz
    cases hz
    obtain ⟨k1, k2⟩ := newF_ok (k := .tup) (xs := [.int (0 + i : Nat), x]) (vs := [.int (i : Nat), y]) e.rel hT rfl (RVs.cons (by rw [Nat.zero_add]; exact RV.int) (RVs.cons u2 RVs.nil))
    exact ⟨_, k1, k2⟩
  · have hp : (enumF 0 xs)[i]? = none := Option.some.inj hp
    rw [enumF_get, Option.map_eq_none_iff] at hp
    exact ⟨ws, sq, by rw [← q3.len]; exact List.getElem?_eq_none_iff.mp hp⟩
theorem I.enum {e : Expr} {te : EF} {p pos tpos : Pos} {elts : List Expr} {kk : Nat} (hg : Gl X "enumerate") (hm : X.mg "enumerate" = none) (he : E X W e te) (hs : starEach [e] X.env = (false, eval e X.env) :: starEach [] X.env := by rfl) :
    I X W (.Tuple elts kk tpos) (.Call (.Name "enumerate" p) [e] [] pos) (iE te) := by
  refine ⟨_, pi_enum hg hm (A.cons he A.nil hs) hs, fun σ H g Γ S Rr rel rg ok => ⟨g, Γ, S, rel, rg, ?_⟩⟩
  cases q : te Γ S with
  | bad => simp only [iE, q, R.bind] at ok; exact ok.elim
  | ex c fs S1 =>
    simp only [iE, q, R.bind] at ok
    simp only [aCons, q, R.bind]
    exact ok
  | ok v S1 =>
    simp only [iE, q, R.bind] at ok
    simp only [aCons, aNil, q, R.bind]
    cases hv : iED v with
    | none => rw [hv] at ok; exact ok.elim
    | some z =>
      rw [hv] at ok
      intro g1 H1 e1 xs rxs
      simp only [RVs] at rxs
      obtain ⟨x, r, rfl, rx, rfl⟩ := rxs
      unfold iED at hv
      split at hv
      · cases hv
        obtain ⟨a, rfl, ⟨vs, hs⟩, hJ⟩ := jok_enum e1.rel rx
        exact ⟨a, vs, rfl, hs, ok g1 H1 e1 _ hJ⟩
      · cases hv
def ieK (r : R PV) : R (Stp × Nat) := r.bind fun p S1 => match iED p with
  | some q => .ok q S1
  | none => .bad
@[simp] theorem iE_eq {t : EF} : iE t Γ S = ieK (t Γ S) := (rfl)
@[simp] theorem ieK_lst {m : Md} {xs : List PV} : ieK (.ok (.con m .lst xs) S) = .ok (stL (enumF 0 xs), (enumF 0 xs).length + 1) S := (rfl)
end
end Pv

/-! Pv26: properties that hand out a field; isinstance of own instances; own ==. -/
namespace Pv
open PySem PySem.Spec PyProof.Rows L2
section
/-! ### a property whose getter hands out a field -/
def pa (K : PySem.W.Frag) (C : Addr) (f : Str) : Addr := match PySem.W.findIn K (.ref C) f with
  | some (some (.ref p)) => p
  | _ => 0
def pg (K : PySem.W.Frag) (C : Addr) (f : Str) : Addr := match PySem.W.recIn K (pa K C f) "property" with
  | some (.ref g :: _) => g
  | _ => 0
def scB (sc : Scope) : Bool := decide (sc.kind = .function) && (!sc.isCoroutine && (!sc.isGenerator && (decide (sc.names.lookup ("self" : Str) = some NameKind.local) && sc.names.all fun y => decide (y.2 ≠ NameKind.free))))
theorem scB_ok {sc : Scope} (h : scB sc = true) : FnScope ["self"] ["self"] sc := by
  unfold scB at h
  obtain ⟨h1, h⟩ := He.ba h
  obtain ⟨h2, h⟩ := He.ba h
  obtain ⟨h3, h⟩ := He.ba h
  obtain ⟨h4, h5⟩ := He.ba h
  refine ⟨of_decide_eq_true h1, by simpa using h2, by simpa using h3, by decide, rfl, fun x hx => ?_, fun y hy => of_decide_eq_true (List.all_eq_true.mp h5 y hy)⟩
  simp only [List.mem_singleton] at hx
  subst hx
  exact Or.inl (of_decide_eq_true h4)
/-- the function's text: return self.f -/
def gtB (K : PySem.W.Frag) (f : Str) : FuncData → Bool
  | ⟨_, q, ⟨[], [⟨x, _, _⟩], none, [], [], none, []⟩, .stmts [.Return (some (.Attribute (.Name y _) z _)) _], sc, gl, [], .none, _, _, _, _, cd, _, bn⟩ => decide (bn = builtinsNs) && (decide (x = "self") && (decide (y = "self") && (decide (z = f) && (decide (gl = mainGlobals) && (scB sc && PySem.W.codeIn K cd q)))))
  | _ => false
def gtO (K : PySem.W.Frag) (f : Str) : Option Obj → Bool
  | some ⟨_, _, .func fd, _⟩ => gtB K f fd
  | _ => false
def propB (K : PySem.W.Frag) (c f z : Str) : Bool := attB K c z && (decide (PySem.W.findIn K (.ref (He.ga K c)) f = some (some (.ref (pa K (He.ga K c) f)))) &&
  (decide (PySem.W.specialIn K (.ref (pa K (He.ga K c) f)) "__get__" = some (some (.builtin "property.__get__"))) && (decide (PySem.W.takesIn K (.ref (pa K (He.ga K c) f)) = some true) &&
  ((match PySem.W.recIn K (pa K (He.ga K c) f) "property" with
    | some (.ref _ :: _) => true
    | _ => false) && gtO K z (K.lookup (pg K (He.ga K c) f))))))
structure PropT (K : PySem.W.Frag) (mg : Str → Option Value) (c f z : Str) : Prop where
  gg : mg c = some (.ref (He.ga K c))
  cl : Cls K (He.ga K c)
  att : AttT K mg c z
  pr : PropOf K (He.ga K c) f (pa K (He.ga K c) f) (pg K (He.ga K c) f)
  fn : ∀ (P : Program) (w : World) (base : Heap), ∃ fd, FnOk P w K mg base (L2.CX P w) 1 (pg K (He.ga K c) f) fd ["self"] (getSp (He.ga K c) z) ∧ Binds K fd ["self"] []
theorem propB_ok {K : PySem.W.Frag} {h : Heap} {mg : Str → Option Value} {c f z : Str} (Y : K.In h) (G : h.Ns mainGlobals mg) (q : propB K c f z = true) : PropT K mg c f z := by
  obtain ⟨q1, q⟩ := He.ba q
  obtain ⟨q2, q⟩ := He.ba q
  obtain ⟨q3, q⟩ := He.ba q
  obtain ⟨q4, q⟩ := He.ba q
  obtain ⟨q5, q6⟩ := He.ba q
  have T := attB_ok (mg := mg) Y G q1
  refine ⟨T.gg, T.cl, T, ⟨of_decide_eq_true q2, of_decide_eq_true q3, of_decide_eq_true q4, ?_⟩, fun P w base => ?_⟩
  · unfold pg
    split at q5
    · rename_i g r e
      exact ⟨r, by rw [e]⟩
    · cases q5
  · unfold gtO at q6
    split at q6
    · rename_i oc od fd osl e
      unfold gtB at q6
      split at q6
      · rename_i nm q x an pos y p1 zz p2 p3 sc gl kV doc pm an2 cd ct bn
        obtain ⟨r0, r⟩ := He.ba q6
        obtain ⟨r1, r⟩ := He.ba r
        have r0 := of_decide_eq_true r0
        subst r0
        obtain ⟨r2, r⟩ := He.ba r
        obtain ⟨r3, r⟩ := He.ba r
        obtain ⟨r4, r⟩ := He.ba r
        obtain ⟨r5, r6⟩ := He.ba r
        have r1 := of_decide_eq_true r1
        have r2 := of_decide_eq_true r2
        have r3 := of_decide_eq_true r3
        have r4 := of_decide_eq_true r4
        subst r1 r2 r3 r4
        refine ⟨_, fn_getter (k := 0) e r6 (scB_ok r5) rfl rfl T.cl T.no, ?_⟩
        exact .all fun us hl => match us, hl with
          | [_], _ => rfl
      · cases q6
    · cases q6
end
section
variable {X : Cx} {W : WX} {c f z : Str} {e : Expr} {t : EF} {pos : Pos} {j : Nat}
theorem E.prop (T : PropT X.K X.mg c f z) (hr : Room j X.A) (h : E X W e t) (hj : 2 ≤ j := by decide) (hb : attributeBase e f X.env (eval e X.env) = eval e X.env := by rfl) : E X W (.Attribute e f pos) (eFld [c] z t) := by
  obtain ⟨fd, F, b⟩ := T.fn X.prog X.w X.base
  refine pe_imp (pe_prop (k := 1) h T.cl T.pr F (hr.mono hj) b .nil (pass_no (X := X.nox)) hb) fun σ H Q ⟨g, Γ, S, rel, rg, ok⟩ => ⟨g, Γ, S, rel, rg, OKw.mono (OKw.bind ok) fun p S1 g1 H1 _ e1 h1 x rx => ?_⟩
  split at h1
  · rename_i v hv
    have TT : ∀ d ∈ [c], AttT X.K X.mg d z := fun d hd => by
      rw [List.mem_singleton.mp hd]
      exact T.att
    unfold fldP at hv
    split at hv
    · rename_i d ns xs ed
      split at hv
      · rename_i hc
        obtain ⟨a, vs, o, rfl, h2, h3, h4⟩ := derefH_ok e1.rel rx ed
        obtain ⟨C, dx, hm, hl, rfl⟩ := h3
        have hd := List.mem_singleton.mp hc
        subst hd
        have : some (Value.ref (He.ga X.K d)) = some (.ref C) := T.gg.symm.trans hm
        cases this
        obtain ⟨u, l1, l2⟩ := zip_lookup h2 hv
        exact ⟨a, dx, _, rfl, h4, a, dx, _, u, rfl, h4, l1, OKw.ok e1.rel h1 u l2⟩
      · cases hv
    · cases hv
  · exact h1.elim
end
/-! ### == by an own __eq__ -/
structure EqT (P : Program) (w : World) (K : PySem.W.Frag) (mg : Str → Option Value) (base : Heap) (k : Nat) (c : Str) (f : List PV → RP) : Prop where
  ex : ∃ (C fI : Addr) (fd : FuncData) (ps : List Str), mg c = some (.ref C) ∧ PySem.W.findIn K (.ref C) "__eq__" = some (some (.ref fI)) ∧ PySem.W.isFn K (.ref fI) = true ∧ FnOk P w K mg base (L2.CX P w) k fI fd ps (spP ⟨K, mg⟩ f) ∧ Binds K fd ps []
def rOwnEq (C : Addr) (sp : Sp) : R2 := fun x y H Q => ∃ a b da db fa fb, x = .ref a ∧ y = .ref b ∧ H a = some (.ins C da fa) ∧ H b = some (.ins C db fb) ∧ sp [.ref a, .ref b] H (fun v H' => ∃ k, v = .bl k ∧ Q (.bl k) H') (fun _ _ _ => False)
section
variable {X : Cx} {k : Nat} {C fI : Addr} {fd : FuncData} {ps : List Str} {sp : Sp}
theorem or_own (hu : X.A.units < cLine) (F : FnOk X.prog X.w X.K X.mg X.base (L2.CX X.prog X.w) k fI fd ps sp) (hr : Room k X.A) (hs : PySem.W.findIn X.K (.ref C) "__eq__" = some (some (.ref fI))) (hf : PySem.W.isFn X.K (.ref fI) = true) (hb : Binds X.K fd ps []) :
    OpR X (compareOp .Eq) (rOwnEq C sp) := by
  intro pins s σ H x y v u Q I rx ry h
  obtain ⟨a, b, da, db, fa, fb, rfl, rfl, ea, eb, q⟩ := h
  obtain rfl : v = Value.ref a := rx
  obtain rfl : u = Value.ref b := ry
  obtain ⟨m1, O1, _⟩ := ins_get I.hok ea
  obtain ⟨m2, O2, _⟩ := ins_get I.hok eb
  obtain ⟨o1, J1, _⟩ := O1.look
  obtain ⟨o2, J2, _⟩ := O2.look
  obtain ⟨m, hfr⟩ := I.fr
  have hlen := F.len _ _ _ _ q
  have hbd : BindsTo s fd ⟨[Value.ref a, .ref b], []⟩ (ps.zip [Value.ref a, .ref b]) := by
    have z := hb s [.ref a, .ref b] I.kIn (by simpa using hlen)
    simpa using z
  have two : Vals [V.ref a, V.ref b] [Value.ref a, Value.ref b] := .cons rfl (.cons rfl .nil)
  have run : wpAny (model X.prog X.w) X.A (call (.ref fI) [.ref a, .ref b]) (fun v s' => ∃ k, v = .bool k ∧ ∃ H', Inv X pins σ H' s' ∧ Q (.bl k) H') X.xe s := by
    refine wpAny_call (codeAny_mono (F.run X.A X.stack s H ⟨[.ref a, .ref b], []⟩ [.ref a, .ref b] [.ref a, .ref b] _ _ hr I.env0 hbd two q) fun r s' hq => ?_)
    cases r with
    | error er =>
      obtain ⟨_, _, _, _, _, _, _, _, _, _, _, _, h⟩ := hq
      exact h.elim
    | ok fl =>
      cases fl with
      | ret u =>
        obtain ⟨v, H', I3, rv, k, rfl, q3⟩ := I.after hq
        exact ⟨k, rv, H', I3, q3⟩
      | next => exact False.elim hq
      | brk => exact False.elim hq
      | cont => exact False.elim hq
  show wpAny (model X.prog X.w) X.A (richCompare .Eq (.ref a) (.ref b)) (EP X pins σ Q) X.xe s
  refine PySem.W.cmp_K (op := .Eq) (tb := .ref C) hu hfr I.ok.mod.kin J1 J2.type (by simp [PySem.W.notFirst]) hs hf (wpAny_mono run (fun r s' hr => ?_) fun _ _ z => z)
  obtain ⟨k, rfl, H', I', q'⟩ := hr
  exact ⟨.bl k, H', I', rfl, q'⟩
end
def eqOF (c : Str) (f : List PV → RP) (S : Sto) (p q : PV) : Option (PV × Sto) := match derefH S p, derefH S q with
  | some (.ins c1 _, _), some (.ins c2 _, _) => if c1 = c ∧ c2 = c then (match lendV S p, lendV S q with
    | some p', some q' => (match f [p', q'] with
      | .ok (.bl b) => some (.bl b, S)
      | _ => none)
    | _, _ => none) else none
  | _, _ => none
def eqF2 (c : Str) (f : List PV → RP) : OF := fun p q S => match eqF p q S with
  | some r => some r
  | none => eqOF c f S p q
section
variable {X : Cx} {W : WX} {k j : Nat} {c : Str} {f : List PV → RP} {a b : Expr} {ta tb : EF} {pos : Pos}
theorem opf_eq2 {C : Addr} (hc : X.mg c = some (.ref C)) : OpF X (fun x y H Q => (rEq x y H Q ∨ rEqP X.K x y H Q) ∨ rOwnEq C (spP X f) x y H Q) (eqF2 c f) := by
  intro H g S p q x y w S' Q rel rx ry h kk
  unfold eqF2 at h
  split at h
  · rename_i r hl
    cases h
    exact Or.inl (opf_eq H g S p q x y w S' Q rel rx ry hl kk)
  · unfold eqOF at h
    split at h
    · rename_i c1 n1 y1 c2 n2 y2 e1 e2
      split at h
      · rename_i ec
        obtain ⟨rfl, ec2⟩ := ec
        subst ec2
        split at h
        · rename_i p' q' l1 l2
          split at h
          · rename_i b ef
            cases h
            obtain ⟨a, va, oa, rfl, h2, h3, h4⟩ := derefH_ok rel rx e1
            obtain ⟨C1, d1, m1, z1, rfl⟩ := h3
            obtain ⟨a2, vb, ob, rfl, k2, k3, k4⟩ := derefH_ok rel ry e2
            obtain ⟨C2, d2, m2, z2, rfl⟩ := k3
            have i1 : some (Value.ref C) = some (.ref C1) := hc.symm.trans m1
            have i2 : some (Value.ref C) = some (.ref C2) := hc.symm.trans m2
            cases i1
            cases i2
            refine Or.inr ⟨a, a2, d1, d2, _, _, rfl, rfl, h4, k4, lendG g S, [p', q'], RVs.cons (lendV_ok rel rx l1) (RVs.cons (lendV_ok rel ry l2) RVs.nil), fun a z => ?_, ?_⟩
            · rcases z with z | z | ⟨n, hn, rfl⟩
              · exact rel.tr a (Or.inl z)
              · exact rel.tr a (Or.inr z)
              · exact rel.tracked hn
            · rw [ef]
              exact fun H' F' x u rv => ⟨b, rv.bl_inv, kk _ _ _ (u.ext rel) RV.bl⟩
          · cases h
        · cases h
      · cases h
    · cases h
theorem or_eq2 {C fI : Addr} {fd : FuncData} {ps : List Str} {sp : Sp} (hu : X.A.units + 64 < cLine) (F : FnOk X.prog X.w X.K X.mg X.base (L2.CX X.prog X.w) k fI fd ps sp) (hr : Room k X.A) (hs : PySem.W.findIn X.K (.ref C) "__eq__" = some (some (.ref fI))) (hf : PySem.W.isFn X.K (.ref fI) = true) (hb : Binds X.K fd ps []) :
    OpR X (compareOp .Eq) (fun x y H Q => (rEq x y H Q ∨ rEqP X.K x y H Q) ∨ rOwnEq C sp x y H Q) := OpR.or (or_eq hu) (or_own (by omega) F hr hs hf hb)
theorem E.eq2 (t : EqT X.prog X.w X.K X.mg X.base k c f) (hr : Room j X.A) (hu : X.A.units + 64 < cLine) (ha : E X W a ta) (hb : E X W b tb) (hk : k ≤ j := by decide) : E X W (.Compare a [.Eq] [b] pos) (eOp (eqF2 c f) ta tb) := by
  obtain ⟨C, fI, fd, ps, hc, h1, h2, F, bd⟩ := t.ex
  exact E.cmp (or_eq2 hu F (hr.mono hk) h1 h2 bd) (opf_eq2 hc) ha hb (nomark _)
theorem B.eq2 (t : EqT X.prog X.w X.K X.mg X.base k c f) (hr : Room j X.A) (hu : X.A.units + 64 < cLine) (ha : E X W a ta) (hb : E X W b tb) (hk : k ≤ j := by decide) : B X W (.Compare a [.Eq] [b] pos) (bE (eOp (eqF2 c f) ta tb)) := by
  obtain ⟨C, fI, fd, ps, hc, h1, h2, F, bd⟩ := t.ex
  exact B.cmp (or_eq2 hu F (hr.mono hk) h1 h2 bd) (opf_eq2 hc) ha hb (nomark _)
end
/-! ### isinstance(x, C) of an instance of C -/
def isoB (K : PySem.W.Frag) (c : Str) : Bool := He.Fa.ok K (.glo c) && (He.Fa.ok K (.cls c) && (decide (PySem.W.findIn K (.ref (He.ga K c)) "__class__" = some (some (.builtin "object.__class__"))) &&
  (decide (PySem.W.specialIn K (.builtin "object.__class__") "__get__" = some (some (.builtin "getset_descriptor.__get__"))) && (decide (PySem.W.takesIn K (.builtin "object.__class__") = some true) &&
  (decide (PySem.W.mroIn K (He.ga K c) (.type "object") = some true) && decide (PySem.W.kitOne K (.ref (He.ga K c)) (.ref (He.ga K c)) = some true))))))
structure IsoT (K : PySem.W.Frag) (mg : Str → Option Value) (c : Str) : Prop where
  gg : mg c = some (.ref (He.ga K c))
  ty : ∀ {H : Hp} {a dx : Addr} {fs : List (Str × V)}, H a = some (.ins (He.ga K c) dx fs) → TyOf K H (.ref a) (.ref (He.ga K c))
  kit : PySem.W.kitOne K (.ref (He.ga K c)) (.ref (He.ga K c)) = some true
theorem isoB_ok {K : PySem.W.Frag} {h : Heap} {mg : Str → Option Value} {c : Str} (Y : K.In h) (G : h.Ns mainGlobals mg) (q : isoB K c = true) : IsoT K mg c := by
  obtain ⟨q1, q⟩ := He.ba q
  obtain ⟨q2, q⟩ := He.ba q
  obtain ⟨q3, q⟩ := He.ba q
  obtain ⟨q4, q⟩ := He.ba q
  obtain ⟨q5, q⟩ := He.ba q
  obtain ⟨q6, q7⟩ := He.ba q
  exact ⟨He.glo_ok Y G q1, fun e => .ins e (He.cls_ok q2) (of_decide_eq_true q3) (of_decide_eq_true q4) (of_decide_eq_true q5) (of_decide_eq_true q6), of_decide_eq_true q7⟩
def isoF (c : Str) : CF := fun ps S => match ps with
  | [p, .fn y] => if y = c then (match derefH S p with
    | some (.ins d _, _) => if d = c then some (.bl true, S) else none
    | _ => none) else none
  | _ => none
section
variable {X : Cx} {W : WX} {c : Str} {pos : Pos}
theorem E.gcls {C : Addr} (hg : Gl X c) (hm : X.mg c = some (.ref C)) (hd : (c == ("__debug__" : Str)) = false := by decide) : E X W (.Name c pos) (eC (.fn c)) :=
  E.const (pe_glob (v := .ref C) hg hm rfl hd) fun H g L => by
    simp only [RV]
    exact ⟨C, hm, rfl⟩
theorem cf_iso (T : IsoT X.K X.mg c) : CallF X (rIsi X.K) (isoF c) := by
  intro H g S ps xs w S' Q rel rxs h k
  unfold isoF at h
  split at h
  · rename_i p y
    split at h
    · rename_i ey
      subst ey
      split at h
      · rename_i d ns ys ed
        split at h
        · rename_i e2
          subst e2
          cases h
          simp only [RVs] at rxs
          obtain ⟨u, r, rfl, ru, v, r2, rfl, rv, rfl⟩ := rxs
          obtain ⟨a, va, oa, rfl, h2, h3, h4⟩ := derefH_ok rel ru ed
          obtain ⟨C1, d1, m1, z1, rfl⟩ := h3
          simp only [RV] at rv
          obtain ⟨C2, m2, rfl⟩ := rv
          have i1 : some (Value.ref (He.ga X.K d)) = some (.ref C1) := T.gg.symm.trans m1
          have i2 : some (Value.ref (He.ga X.K d)) = some (.ref C2) := T.gg.symm.trans m2
          cases i1
          cases i2
          exact ⟨_, _, _, _, true, rfl, .own _, .base (T.ty h4), T.kit, k g H _ (Ext.refl rel) RV.bl⟩
        · cases h
      · cases h
    · cases h
  · cases h
end
end Pv

/-! Pv27: enumerate of a tuple. -/
namespace Pv
open PySem PySem.Spec PyProof.Rows L2
section
theorem made_enum {v : Value} {o : Obj} {Z : Heap → Prop} (B : Begins v o Z) :
    Meets (Builtin.«enumerate.__new__» ⟨[.type "enumerate", v], []⟩) (fun _ R s => Z s.heap ∧
      R (.ok (.ret (.ref (s.heap.push o).objs.size))) { s with heap := (s.heap.push o).push { cls := .type "enumerate", data := .fields #[.none, .bool false, .ref s.heap.objs.size, rawInt 0, .none, .none] } }) :=
  .of_wp fun prog w A R s ⟨z, k⟩ => by
    obtain ⟨hp, g, d, tk, os⟩ := s
    have hsub := sub_enumerate
    have goes : ∀ {A' : Around} {E : Value → Shared → Prop} {Q : Value → Shared → Prop}, Q (.ref hp.objs.size) ⟨hp.push o, g, d, tk, os⟩ → wpAny (model prog w) A' (pyIter v) Q E ⟨hp, g, d, tk, os⟩ := fun q => B.iter prog w _ _ ⟨hp, g, d, tk, os⟩ _ z q
    wp_walk using goes
    refine wpAny_stack_any fun _ => wpAny_pure ?_
    split
    · rename_i c _ _ _ _ _
      cases (c == Value.type "enumerate") <;> (wp_walk using goes; exact ⟨_, rfl, k⟩)
    · wp_walk using goes
      exact ⟨_, rfl, k⟩
theorem call_enumB {prog : Program} {w : World} {A : Around} {E : Value → Shared → Prop} {s : Shared} {v : Value} {o : Obj} {Z : Heap → Prop} {Q : Value → Shared → Prop} (B : Begins v o Z) (z : Z s.heap)
    (k : ∀ h', IsEnum h' (s.heap.objs.size + 1) s.heap.objs.size 0 .none → h'.get? s.heap.objs.size = some o → (∀ b u, s.heap.get? b = some u → h'.get? b = some u) → Q (.ref (s.heap.objs.size + 1)) { s with heap := h' }) :
    wpAny (model prog w) A (call (.type "enumerate") [v]) Q E s := by
  refine callType_new F.called_enumerate (by decide) (F.typeCall_enumerate_1 _) (F.newCall_enumerate_1 _) (fun obj => F.args_object_init_2 obj _) F.entry_enumerate_new (made_enum B) ⟨z, ?_⟩
  have hz : (s.heap.push o).objs.size = s.heap.objs.size + 1 := Heap.size_push ..
  show _ ∧ _
  rw [hz]
  have he : IsEnum ((s.heap.push o).push { cls := .type "enumerate", data := .fields #[.none, .bool false, .ref s.heap.objs.size, rawInt 0, .none, .none] }) (s.heap.objs.size + 1) s.heap.objs.size 0 .none := by
    have q := Heap.get?_push_size (s.heap.push o) (o := { cls := .type "enumerate", data := .fields #[.none, .bool false, .ref s.heap.objs.size, rawInt 0, .none, .none] }) rfl
    rw [hz] at q
    exact q
  exact ⟨⟨_, he, rfl⟩, k _ he (Heap.get?_push_of_some _ (Heap.get?_push_size _ B.free)) fun b u x => Heap.get?_push_of_some _ (Heap.get?_push_of_some _ x)⟩
/-- the tuple at a, its items in new pairs with their numbers -/
def IteT (K : PySem.W.Frag) (a : Addr) : It :=
  ⟨fun i H => ∃ (xs : List V) (x : V), SqT K H a xs ∧ xs[i]? = some x, fun i H v H' => ∃ T x, v = .ref T ∧ H T = none ∧ H' = upd H T (.tup [.int (i : Nat), x]) ∧ ∀ xs, SqT K H a xs → xs[i]? = some x, fun i H => ∃ xs : List V, SqT K H a xs ∧ xs.length ≤ i⟩
theorem turn_enT {P : Program} {w : World} {K : PySem.W.Frag} {elts : List Expr} {kk : Nat} {tpos : Pos} (a e it : Addr) :
    Turn P w K (.Tuple elts kk tpos) (IteT K a) [e, it] e (fun i h => (∃ old, IsEnum h e it ((i : Nat) : Int) old) ∧ h.IsTupleIter it a i ∧ e ≠ it ∧ e ≠ a ∧ a ≠ it) where
  mem := List.mem_cons_self
  obj := fun i h st b hb => by
    obtain ⟨⟨old, he⟩, ⟨o, ho, hc, hd⟩, _⟩ := st
    rcases List.mem_cons.mp hb with rfl | hb
    · exact ⟨_, he, fun v q => nomatch q⟩
    · rw [List.mem_singleton.mp hb]
      exact ⟨o, ho, fun v q => by rw [hd] at q; cases q⟩
  keep := fun i h h' st k => let ⟨⟨old, he⟩, hi, hr⟩ := st; ⟨⟨old, k e List.mem_cons_self _ he⟩, hi.at fun o q => k it (List.mem_cons_of_mem _ List.mem_cons_self) o q, hr⟩
  item := by
    intro X e1 e2 e3 hc i pins s σ H E I hf st hg
    subst e1 e2 e3
    obtain ⟨⟨old, he⟩, hit, n1, n2, n3⟩ := st
    obtain ⟨xs, x, hq, hx⟩ := hg
    obtain ⟨its, rv, p, hz⟩ := I.tuple hq
    obtain ⟨u, hu, ru⟩ := rv.get hx
    have l1 : e < s.heap.objs.size := Heap.lt_size he
    have l2 : it < s.heap.objs.size := by obtain ⟨_, q, _⟩ := hit; exact Heap.lt_size q
    have p : s.heap.IsTuple a its.toArray := p
    have hi : i < its.toArray.size := by
      have := (List.getElem?_eq_some_iff.mp hu).1
      simpa using this
    have D := Draws.tuple (prog := X.prog) (w := X.w) (A := X.A.in1) (I.ok.hd hc) it a n3 its.toArray
    refine wpAny_pyNext_enum_itemD D he ⟨hit, p⟩ hi n1 (by simp [n1, n2]) fun u' h' tk hP ho hS hT hsz hk => ?_
    obtain ⟨hit', p'⟩ := hS
    have eu : u' = u := by
      have : its.toArray[i]? = some u := by simpa using hu
      exact Option.some.inj (hP.symm.trans this)
    subst eu
    refine ⟨_, rfl, wpAny_letOwnedTupleGo_enum (s := { s with heap := h', toks := tk + 1 }) ho fun h'' he' sb => ?_⟩
    have hT2 : h''.get? s.heap.objs.size = some { cls := .type "tuple", data := .seq #[.int i tk, u'] } := (sb.2 _ (Nat.ne_of_gt l1)).trans hT
    have new : ObjOk X.prog X.w (upd H s.heap.objs.size (.tup [.int (i : Nat), x])) h'' s.heap.objs.size (.tup [.int (i : Nat), x]) :=
      ⟨by show 2 ≤ sizeLine; decide, [.int i tk, u'], .cons ⟨_, rfl⟩ (.cons ru .nil), ⟨_, hT2, rfl, _, rfl⟩⟩
    have kk : ∀ b ob, b ∉ [e, it] → s.heap.get? b = some ob → h''.get? b = some ob := fun b ob hb q => by
      have b1 : b ≠ e := fun z => hb (by rw [z]; exact List.mem_cons_self)
      have b2 : b ≠ it := fun z => hb (by rw [z]; exact List.mem_cons_of_mem _ List.mem_cons_self)
      exact (sb.2 b b1).trans (hk b ob b1 b2 q)
    have I1 : Inv X pins σ (upd H s.heap.objs.size (.tup [.int (i : Nat), x])) { s with heap := h'', toks := tk + 1 } := I.turnedNew (ch := [e, it]) kk hf (Nat.le_refl _) new
    refine ⟨.ref s.heap.objs.size, _, I1, rfl, ⟨_, x, rfl, I.hok.fresh (Nat.le_refl _), rfl, fun ys hy => by rw [I.tuple_inj hy hq]; exact hx⟩, ⟨⟨u', ?_⟩, hit'.at fun o q => (sb.2 it (Ne.symm n1)).trans q, n1, n2, n3⟩, fun b hb => ?_⟩
    · rw [show ((i + 1 : Nat) : Int) = (i : Int) + 1 from by omega]
      exact he'
    · have lb : b < s.heap.objs.size := by
        rcases List.mem_cons.mp hb with rfl | hb
        · exact l1
        · rw [List.mem_singleton.mp hb]; exact l2
      rw [upd_ne (Nat.ne_of_lt lb)]
      exact (hf b hb).1
  done := by
    intro X e1 e2 e3 hc i pins s σ H E I hf st hg
    subst e1 e2 e3
    obtain ⟨⟨old, he⟩, hit, n1, n2, n3⟩ := st
    obtain ⟨xs, hq, hx⟩ := hg
    obtain ⟨its, rv, p, hz⟩ := I.tuple hq
    have p : s.heap.IsTuple a its.toArray := p
    obtain ⟨f0, f1, f2, f3, f4, f5⟩ := hf it (List.mem_cons_of_mem _ List.mem_cons_self)
    have hl := rv.length
    have D : Draws X.prog X.w X.A.in1 it [it, a] i (fun _ _ => True) (fun j h => j = i ∧ h.IsTupleIter it a i ∧ h.IsTuple a its.toArray) :=
      { live := fun _ _ st => let ⟨_, ⟨o, ho, _⟩, _⟩ := st; ⟨o, ho⟩
        frame := fun _ _ _ st hk => ⟨st.1, st.2.1.at fun o e => hk it (by simp) o e, st.2.2.at fun o e => hk a (by simp) o e⟩
        item := fun j s Q E hi st hQ => by have := st.1; omega
        done := fun s Q E st hE => wpAny_nextOf_tuple_end (I.ok.hd hc) st.2.1 st.2.2 (by simp; omega) hE }
    exact wpAny_pyNext_enum_endD D he ⟨rfl, hit, p⟩ fun h' eb => ⟨rfl, I.turned (t' := s.toks) (fun b o hb q => eb b o hb q) f0 f1 f3 f4 f5⟩
  self := fun A i s Q E st h => let ⟨⟨_, he⟩, _⟩ := st; wpAny_pyIter_enum he h
def iEnumA (K : PySem.W.Frag) (ta : TA) : TI := fun σ H R => ta σ H fun vs H1 => ∃ a, vs = [.ref a] ∧ ((∃ xs, SqL K H1 a xs ∧ R (Ite K a) H1) ∨ ∃ xs, SqT K H1 a xs ∧ R (IteT K a) H1)
theorem pi_enumA {X : Cx} {e : Expr} {ta : TA} {p pos tpos : Pos} {elts : List Expr} {kk : Nat} (hg : Gl X "enumerate") (hm : X.mg "enumerate" = none) (ha : PA X [e] ta) (hs : starEach [e] X.env = [(false, eval e X.env)] := by rfl) :
    PI X (.Tuple elts kk tpos) (.Call (.Name "enumerate" p) [e] [] pos) (iEnumA X.K ta) := by
  refine ⟨fun pins s σ H R I h => Call_ (ld_blt I hg hm boot_enumerate (PyProof.Rows.callWith_type1 (thn (ha.run pos pins s σ H _ I h) fun us s1 ⟨vs, H1, I1, r1, a, ev, q⟩ => ?_) hs rfl))⟩
  subst ev
  cases r1 with
  | cons r rr =>
    cases rr
    cases r
    have apart : ∀ b ∈ [s1.heap.objs.size + 1, s1.heap.objs.size], s1.heap.objs.size ≤ b := fun b hb => by
      rcases List.mem_cons.mp hb with rfl | hb
      · exact Nat.le_succ _
      · rw [List.mem_singleton.mp hb]; exact Nat.le_refl _
    rcases q with ⟨xs, hq, q⟩ | ⟨xs, hq, q⟩
    · obtain ⟨its, rv, p', hz⟩ := I1.list hq
      refine call_enumerate_list p'.isList fun h' he hit hsz hk => wpAny_pyIter_enum he ?_
      exact ⟨s1.heap.objs.size + 1, [s1.heap.objs.size + 1, s1.heap.objs.size], _, _, H1, rfl, I1.kept (t' := s1.toks) hk, turn_enum a (s1.heap.objs.size + 1) s1.heap.objs.size, ⟨⟨.none, he⟩, hit, Nat.succ_ne_self _⟩, fun b hb => I1.fpOk (apart b hb) (I1.hok.fresh (apart b hb)), q⟩
    · obtain ⟨its, rv, p', hz⟩ := I1.tuple hq
      have p' : s1.heap.IsTuple a its.toArray := p'
      have la : a < s1.heap.objs.size := by obtain ⟨o, ho, _⟩ := p'; exact Heap.lt_size ho
      refine call_enumB (begins_tuple a its.toArray) p' fun h' he hit hk => wpAny_pyIter_enum he ?_
      exact ⟨s1.heap.objs.size + 1, [s1.heap.objs.size + 1, s1.heap.objs.size], _, _, H1, rfl, I1.kept (t' := s1.toks) hk, turn_enT a (s1.heap.objs.size + 1) s1.heap.objs.size, ⟨⟨.none, he⟩, ⟨_, hit, rfl, rfl⟩, Nat.succ_ne_self _, Nat.ne_of_gt (Nat.lt_succ_of_lt la), Nat.ne_of_lt la⟩, fun b hb => I1.fpOk (apart b hb) (I1.hok.fresh (apart b hb)), q⟩
end
def iED2 : PV → Option (Stp × Nat)
  | .con _ .lst xs => some (stL (enumF 0 xs), (enumF 0 xs).length + 1)
  | .con _ .tup xs => some (stL (enumF 0 xs), (enumF 0 xs).length + 1)
  | _ => none
def iE2 (t : EF) : IF := fun Γ S => (t Γ S).bind fun p S1 => match iED2 p with
  | some q => .ok q S1
  | none => .bad
section
variable {X : Cx} {W : WX} {H H' : Hp} {g g' : G} {S S' : Sto} {σ : L2.St} {Γ : Gam}
theorem jok_enumT {Y : Kx} {m : Md} {xs : List PV} {v : V} (rel : Rel Y H g S) (rv : RV Y H g S.length (.con m .tup xs) v) : ∃ a, v = .ref a ∧ (∃ vs, SqT Y.K H a vs) ∧ JOK Y (IteT Y.K a) (stL (enumF 0 xs)) H g S := by
  have rv0 := rv
  simp only [RV] at rv
  obtain ⟨a, vs, rfl, h2, h3⟩ := rv
  refine ⟨a, rfl, ⟨vs, h2.rdd.tup⟩, fun g' H' S' i e => ?_⟩
  have rv2 := RV.up rel e _ _ rv0
  simp only [RV] at rv2
  obtain ⟨b, ws, eb, q2, q3⟩ := rv2
  cases eb
  have sq := q2.rdd.tup
  refine ⟨fun p hp => ?_, fun hp => ?_⟩
  · have hp : (enumF 0 xs)[i]? = some p := Option.some.inj hp
    rw [enumF_get] at hp
    obtain ⟨x, hx, rfl⟩ := Option.map_eq_some_iff.mp hp
    obtain ⟨y, u1, u2⟩ := q3.get hx
    refine ⟨⟨ws, y, sq, u1⟩, fun u H2 w => ?_⟩
    obtain ⟨T, z, rfl, hT, rfl, hz⟩ := w
    have hz := hz ws sq
    rw [u1] at hz
    cases hz
    obtain ⟨k1, k2⟩ := newF_ok (k := .tup) (xs := [.int (0 + i : Nat), x]) (vs := [.int (i : Nat), y]) e.rel hT rfl (RVs.cons (by rw [Nat.zero_add]; exact RV.int) (RVs.cons u2 RVs.nil))
    exact ⟨_, k1, k2⟩
  · have hp : (enumF 0 xs)[i]? = none := Option.some.inj hp
    rw [enumF_get, Option.map_eq_none_iff] at hp
    exact ⟨ws, sq, by rw [← q3.len]; exact List.getElem?_eq_none_iff.mp hp⟩
theorem I.enum2 {e : Expr} {te : EF} {p pos tpos : Pos} {elts : List Expr} {kk : Nat} (hg : Gl X "enumerate") (hm : X.mg "enumerate" = none) (he : E X W e te) (hs : starEach [e] X.env = [(false, eval e X.env)] := by rfl) :
    I X W (.Tuple elts kk tpos) (.Call (.Name "enumerate" p) [e] [] pos) (iE2 te) := by
  refine ⟨_, pi_enumA hg hm (A.cons he A.nil hs) hs, fun σ H g Γ S Rr rel rg ok => ⟨g, Γ, S, rel, rg, ?_⟩⟩
  cases q : te Γ S with
  | bad => simp only [iE2, q, R.bind] at ok; exact ok.elim
  | ex c fs S1 =>
    simp only [iE2, q, R.bind] at ok
    simp only [aCons, q, R.bind]
    exact ok
  | ok v S1 =>
    simp only [iE2, q, R.bind] at ok
    simp only [aCons, aNil, q, R.bind]
    cases hv : iED2 v with
    | none => rw [hv] at ok; exact ok.elim
    | some z =>
      rw [hv] at ok
      intro g1 H1 e1 xs rxs
      simp only [RVs] at rxs
      obtain ⟨x, r, rfl, rx, rfl⟩ := rxs
      unfold iED2 at hv
      split at hv
      · cases hv
        obtain ⟨a, rfl, ⟨vs, hs⟩, hJ⟩ := jok_enum e1.rel rx
        exact ⟨a, rfl, Or.inl ⟨vs, hs, ok g1 H1 e1 _ hJ⟩⟩
      · cases hv
        obtain ⟨a, rfl, ⟨vs, hs⟩, hJ⟩ := jok_enumT e1.rel rx
        exact ⟨a, rfl, Or.inr ⟨vs, hs, ok g1 H1 e1 _ hJ⟩⟩
      · cases hv
def ieK2 (r : R PV) : R (Stp × Nat) := r.bind fun p S1 => match iED2 p with
  | some q => .ok q S1
  | none => .bad
@[simp] theorem iE2_eq {t : EF} : iE2 t Γ S = ieK2 (t Γ S) := (rfl)
@[simp] theorem ieK2_lst {m : Md} {xs : List PV} : ieK2 (.ok (.con m .lst xs) S) = .ok (stL (enumF 0 xs), (enumF 0 xs).length + 1) S := (rfl)
@[simp] theorem ieK2_tup {m : Md} {xs : List PV} : ieK2 (.ok (.con m .tup xs) S) = .ok (stL (enumF 0 xs), (enumF 0 xs).length + 1) S := (rfl)
end
end Pv

/-! Pv28: tuple(range(n)). -/
namespace Pv
open PySem PySem.Spec PyProof.Rows L2
section
variable {X : Cx} {W : WX} {a : Expr} {ta : EF}
/-- the tuple of the numbers below what t computes -/
def eTR (t : EF) : EF := fun Γ S => (t Γ S).bind fun v S1 => match v with
  | .int n => if 0 ≤ n ∧ n ≤ 16777216 then .ok (.con .own .tup (intsF 0 n.toNat)) S1 else .bad
  | _ => .bad
theorem E.tupRg {p p2 pos pos2 : Pos} (hc : X.calm = true) (hg : Gl X "tuple") (hm : X.mg "tuple" = none) (hg2 : Gl X "range") (hm2 : X.mg "range" = none) (ha : E X W a ta)
    (na : starEach [a] X.env = (false, eval a X.env) :: starEach [] X.env := by rfl) (nb : starEach [.Call (.Name "range" p2) [a] [] pos2] X.env = (false, eval (.Call (.Name "range" p2) [a] [] pos2) X.env) :: starEach [] X.env := by rfl) :
    E X W (.Call (.Name "tuple" p) [.Call (.Name "range" p2) [a] [] pos2] [] pos) (eTR ta) :=
  pe_imp (pe_tupRg hc hg hm (prg_1 hg2 hm2 ha na) nb) fun σ H Q ⟨g, Γ, S, rel, rg, ok⟩ => ⟨g, Γ, S, rel, rg, OKw.mono (OKw.bind ok) fun v S1 g1 H1 _ e1 h1 x rx => by
    split at h1
    · rename_i n _
      simp only [RV] at rx
      subst rx
      split at h1
      · rename_i hn
        refine ⟨n, rfl, RgOk.of_le (by omega) hn.2 (by omega) hn.1, fun q hq => ?_⟩
        have hr : RVs (kx X) H1 g1 S1.length (intsF 0 n.toNat) (rgV 0 n) := by
          have := RVs.ofints (Y := kx X) (H := H1) (g := g1) (L := S1.length) (lo := 0) (n := n.toNat)
          unfold rgV
          rwa [show (n - 0).toNat = n.toNat by omega]
        obtain ⟨z1, z2⟩ := newF_ok e1.rel hq (k := .tup) (o := .tup _) rfl hr
        exact h1 _ _ z1 _ z2
      · exact h1.elim
    · exact h1.elim⟩
end
end Pv

/-! Pv29: o[a:c] = a new list. -/
namespace Pv
open PySem PySem.Spec PyProof.Rows L2
section
variable {X : Cx} {W : WX} {o : Expr} {lo hi : Option Expr} {pos p2 : Pos}
/-- by values: places a to c of the list o become those of another list v -/
def gCut (to : TE) (tl th : TO) : TG := fun v σ H Q => to σ H fun x H1 => tl σ H1 fun l H2 => th σ H2 fun u H3 =>
  ∃ (p b : Addr) (xs ys : List V) (a c : Int), x = .ref p ∧ v = .ref b ∧ l = some a ∧ u = some c ∧ H3 p = some (.lst xs) ∧ H3 b = some (.lst ys) ∧ p ≠ b ∧ 0 ≤ a ∧ a ≤ c ∧ c ≤ xs.length ∧ xs.length + ys.length ≤ sizeLine ∧
    Q σ (upd H3 p (.lst (xs.take a.toNat ++ ys ++ xs.drop c.toNat)))
theorem pg_cut {to : TE} {tl th : TO} (ho : PE X o to) (hl : PO X lo tl) (hh : PO X hi th)
    (ha : ∀ v, assign (.Subscript o (.Slice lo hi none p2) pos) X.env v = (do
      let ov ← holding [v] (eval o X.env)
      let iv ← holding [v, ov] (eval (.Slice lo hi none p2) X.env)
      standAt pos
      holding [v, ov, iv] (setItem ov iv v)
      release [iv, v, ov] []) := by intro _; rfl) : PG X (.Subscript o (.Slice lo hi none p2) pos) (gCut to tl th) := by
  refine ⟨fun pins s σ H v u Q I r h => ?_⟩
  rw [ha]
  refine wpAny_bind (wpAny_holding (thn (ho.run pins s σ H _ I h) fun ov s1 ⟨x, H1, I1, r1, q1⟩ => ?_))
  refine wpAny_bind (wpAny_holding (wpAny_Slice (thn (hl.run pins s1 σ H1 _ I1 q1) fun vl s2 ⟨l, H2, I2, pl, q2⟩ => thn (hh.run pins s2 σ H2 _ I2 q2) fun vu s3 ⟨w, H3, I3, pu, q3⟩ => ?_)))
  rw [evalPart_none]
  refine wpAny_pure ?_
  obtain ⟨p, b, xs, ys, a, c, rfl, rfl, rfl, rfl, e1, e2, ne, h0, h1, h2, hz, q⟩ := q3
  have I4 : Inv X pins σ H3 { s3 with heap := s3.heap.push { cls := .type "slice", data := .fields #[vl, vu, .none] } } := I3.kept (t' := s3.toks) fun b ob q => Heap.get?_push_of_some _ q
  cases r1
  cases r
  cases pl
  cases pu
  refine wpAny_bind (wpAny_standAt (wpAny_bind (wpAny_holding ?_)))
  refine set_slice I4 e1 e2 ne (Heap.IsSliceOf.new ..) ⟨_, rfl⟩ ⟨_, rfl⟩ h0 h1 h2 hz fun s5 I5 => ?_
  exact wpAny_release ⟨σ, _, I5, q⟩
/-- places a to c of a changing list become those of a new one -/
def cutF (o : PV) (l u : Option Int) (v : PV) (S : Sto) : Option Sto := match o, l, u, v with
  | .ref n, some a, some c, .con .own .lst ys => match S[n]?.join with
    | some (.lst, xs) => if 0 ≤ a ∧ a ≤ c ∧ c ≤ xs.length ∧ xs.length + ys.length ≤ sizeLine then some (S.set n (some (.lst, xs.take a.toNat ++ ys ++ xs.drop c.toNat))) else none
    | _ => none
  | _, _, _, _ => none
def gCutF (to : EF) (tl th : OFn) : GF := fun v Γ S => (to Γ S).bind fun o S1 => (tl Γ S1).bind fun l S2 => (th Γ S2).bind fun u S3 => match cutF o l u v S3 with
  | some S4 => .ok Γ S4
  | none => .bad
theorem cut_inv {o v : PV} {l u : Option Int} {S S' : Sto} (h : cutF o l u v S = some S') : ∃ (n : Nat) (a c : Int) (xs ys : List PV), o = .ref n ∧ l = some a ∧ u = some c ∧ v = .con .own .lst ys ∧ S[n]? = some (some (.lst, xs)) ∧ (0 ≤ a ∧ a ≤ c ∧ c ≤ xs.length ∧ xs.length + ys.length ≤ sizeLine) ∧
    S' = S.set n (some (.lst, xs.take a.toNat ++ ys ++ xs.drop c.toNat)) := by
  unfold cutF at h
  split at h
  · split at h
    · rename_i ej
      split at h
      · rename_i hc
        cases h
        exact ⟨_, _, _, _, _, rfl, rfl, rfl, rfl, join_some ej, hc, rfl⟩
      · cases h
    · cases h
  · cases h
theorem RVs.takeP {Y : Kx} {H : Hp} {g : G} {L : Nat} {ps : List PV} {vs : List V} (h : RVs Y H g L ps vs) (k : Nat) : RVs Y H g L (ps.take k) (vs.take k) := h.take k
theorem Tg.cut {to : EF} {tl th : OFn} (ho : E X W o to) (hl : Po X W lo tl) (hh : Po X W hi th)
    (ha : ∀ v, assign (.Subscript o (.Slice lo hi none p2) pos) X.env v = (do
      let ov ← holding [v] (eval o X.env)
      let iv ← holding [v, ov] (eval (.Slice lo hi none p2) X.env)
      standAt pos
      holding [v, ov, iv] (setItem ov iv v)
      release [iv, v, ov] []) := by intro _; rfl) : Tg X W (.Subscript o (.Slice lo hi none p2) pos) (gCutF to tl th) :=
  pg_imp (pg_cut ho hl hh ha) fun v σ H Q ⟨g, Γ, S, p, rel, rg, rv, ok⟩ => by
    refine ⟨g, Γ, S, rel, rg, OKw.mono (OKw.bind ok) fun o' S1 g1 H1 _ e1 h1 x rx => ?_⟩
    refine ⟨g1, Γ, S1, e1.rel, rg.up rel e1, OKw.mono (OKw.bind h1) fun l S2 g2 H2 _ e2 h2 => ?_⟩
    refine ⟨g2, Γ, S2, e2.rel, (rg.up rel e1).up e1.rel e2, OKw.mono (OKw.bind h2) fun u S3 g3 H3 _ e3 h3 => ?_⟩
    have rx3 := RV.up e2.rel e3 _ _ (RV.up e1.rel e2 _ _ rx)
    have rv3 := RV.up e2.rel e3 _ _ (RV.up e1.rel e2 _ _ (RV.up rel e1 _ _ rv))
    have rg3 := ((rg.up rel e1).up e1.rel e2).up e2.rel e3
    split at h3
    · rename_i S4 hw
      obtain ⟨n, a, c, xs, ys, rfl, rfl, rfl, rfl, hn, ⟨c0, c1, c2, c3⟩, rfl⟩ := cut_inv hw
      obtain ⟨ob, vs, q1, q2, _, q4⟩ := e3.rel.ob n _ _ hn
      cases q2
      simp only [RV] at rx3
      have rv4 := rv3
      simp only [RV] at rv4
      obtain ⟨b, ws, k1, ⟨ob, k2, k3, k4⟩, k5⟩ := rv4
      cases k2
      have ne : g3.r n ≠ b := fun e => e3.rel.fF n ⟨_, hn⟩ (by rw [e]; exact k4 trivial)
      have len := q4.len
      have len2 := k5.len
      have e4 := set_ok (k' := .lst) (vs' := vs.take a.toNat ++ ws ++ vs.drop c.toNat) e3.rel hn (o' := .lst (vs.take a.toNat ++ ws ++ vs.drop c.toNat)) rfl (by decide) (((q4.take a.toNat).append k5).append (q4.drop c.toNat))
      exact ⟨g3.r n, b, vs, ws, a, c, rx3.2, k1, rfl, rfl, q1, k3, ne, c0, c1, by omega, by omega, h3 _ _ e4 _ (rg3.up e3.rel e4)⟩
    · exact h3.elim
/-! // by any divisor but 0 -/
def CDivZ (_ j : Int) : Prop := j ≠ 0 ∧ j.natAbs.log2 < 9000
instance (i j : Int) : Decidable (CDivZ i j) := inferInstanceAs (Decidable (_ ∧ _))
theorem op_fdivZ : OpR X (binaryOp .FloorDiv) (rI CDivZ fun i j => .int (i.fdiv j)) := opI fun _ _ _ _ _ _ _ hc q => floordiv_int hc.1 q (.inl (PyProof.noPylong_of_log2 hc.2))
abbrev fdivZF : OF := iOp CDivZ fun i j => .int (i.fdiv j)
theorem E.fdivZ {a b : Expr} {ta tb : EF} {pos : Pos} (ha : E X W a ta) (hb : E X W b tb) : E X W (.BinOp a .FloorDiv b pos) (eOp fdivZF ta tb) := E.op op_fdivZ opf_I ha hb
theorem fdivZ_ok {x y : Int} {S : Sto} (h : y ≠ 0) (hb : y.natAbs < 2 ^ 8000) : fdivZF (.int x) (.int y) S = some (.int (x.fdiv y), S) := by
  have c : CDivZ x y := ⟨h, Nat.lt_of_lt_of_le (PySem.Flt.log2_lt_of (by decide) hb) (by decide)⟩
  show (if CDivZ x y then some (PV.int (x.fdiv y), S) else none) = _
  rw [if_pos c]
end
end Pv

/-! Pv30: sets of ints made by a comprehension. The order of the steps in pe_sci is that of the library's list comprehension (HandS.Comp); its own lemmas are used throughout. -/
namespace Pv
open PySem PySem.Spec PyProof.Rows L2
section
variable {X : Cx}
/-- ints met so far, as a set: who is in, how many -/
def inS (ks : List Int) : Int → Bool := fun j => decide (j ∈ ks)
def cntS : List Int → Nat
  | [] => 0
  | k :: ks => if k ∈ ks then cntS ks else cntS ks + 1
theorem cntS_le : ∀ ks : List Int, cntS ks ≤ ks.length
  | [] => Nat.le_refl _
  | k :: ks => by
    have := cntS_le ks
    unfold cntS
    split <;> simp <;> omega
/-- the set object at D of the ints ks (the last one put in stands first) -/
def SetI (w : World) (D : Addr) (ks : List Int) : HO := SetO w D (inS ks) (cntS ks)
theorem SetI.put (w : World) (D : Addr) (ks : List Int) (k : Int) : SetO w D (fun j => inS ks j || decide (j = k)) (if inS ks k = true then cntS ks else cntS ks + 1) = SetI w D (k :: ks) := by
  unfold SetI
  have e1 : (fun j => inS ks j || decide (j = k)) = inS (k :: ks) := by
    funext j
    unfold inS
    by_cases h1 : j = k <;> by_cases h2 : j ∈ ks <;> simp [h1, h2]
  have e2 : (if inS ks k = true then cntS ks else cntS ks + 1) = cntS (k :: ks) := by
    unfold inS
    rw [show cntS (k :: ks) = if k ∈ ks then cntS ks else cntS ks + 1 from rfl]
    simp
  rw [e1, e2]
/-- by values: {elt for target in iter if ..}, ints -/
def tSi (w : World) (wi : TI) (g : TG) (tt : TT) (te : TE) (vs : List Nat) : TE := fun σ H Q => wi σ H fun J H1 => ∀ D, H1 D = none → ∃ W : Nat → Nat → Hp → Prop, (∃ m, W 0 m (upd H1 D (SetI w D []))) ∧ ∀ i m H, W i m H →
  (J.stop i H ∧ Q (.ref D) H) ∨ (J.go i H ∧ ∃ Nx : Hp → Prop, (∀ H', Nx H' → ∃ m', m' < m ∧ W (i + 1) m' H') ∧ ∀ x H', J.yld i H x H' → g x (wipe σ vs) H' fun σ2 H2 => wipe σ2 vs = wipe σ vs ∧ tt σ2 H2 fun b H3 =>
    if b = true then te σ2 H3 fun y H4 => ∃ ks k, y = .int k ∧ H4 D = some (SetI w D ks) ∧ ks.length + 1 < scanBound ∧ Nx (upd H4 D (SetI w D (k :: ks))) else Nx H3)
/-- one int is put in -/
theorem sput {pins : List (Addr × Obj)} {σ : L2.St} {H : Hp} {s : Shared} {E : Value → Shared → Prop} {D : Addr} {ks : List Int} {k : Int} {v : Value} {Q : Value → Shared → Prop} (I : Inv X pins σ H s) (hD : H D = some (SetI X.w D ks)) (hz : ks.length + 1 < scanBound) (r : RelV (.int k) v)
    (h : ∀ u s', Inv X pins σ (upd H D (SetI X.w D (k :: ks))) s' → Q u s') : wpAny (model X.prog X.w) X.A (call (.builtin "set.add") [.ref D, v]) Q E s := by
  obtain ⟨tk, rfl⟩ := r
  have R := setO_get I hD
  refine setR_add R (by have := cntS_le ks; omega) fun h' sb new => ?_
  have he : ∃ u, h'.get? D = some u := by
    have ⟨o, _, _, _, ho, _⟩ := new
    exact ⟨o, ho⟩
  have I' := I.write (e := D) (t' := s.toks + 1) (o := SetO X.w D (fun j => inS ks j || decide (j = k)) (if inS ks k = true then cntS ks else cntS ks + 1)) (by rw [hD]; trivial) (.inl rfl) (fun b u hb hu => (sb.2 b hb).trans hu) he (setO_new new)
  rw [SetI.put] at I'
  exact h _ _ I'
/-- {elt for target in iter if ..}, ints -/
theorem pe_sci {elt tg iter : Expr} {ifs : List Expr} {scope : Scope} {own : List (Str × Nat)} {pos : Pos} {wi : TI} {g : TG} {tt : TT} {te : TE} (hc : X.calm = true) (hN : X.N.Nodup) (hi : PI X tg iter wi) (ok : BlkOk X.N X.env.scope scope own)
    (hg : ∀ (s : Shared) (H : Hp) (C : Addr) (cl : List (Str × Addr)) (fp : List Addr), PG (X.blk s H scope (compEnvC scope cl C X.env) fp) tg g)
    (ht : ∀ (s : Shared) (H : Hp) (C : Addr) (cl : List (Str × Addr)) (fp : List Addr), PTs (X.blk s H scope (compEnvC scope cl C X.env) fp) ifs tt)
    (he : ∀ (s : Shared) (H : Hp) (C : Addr) (cl : List (Str × Addr)) (fp : List Addr), PE (X.blk s H scope (compEnvC scope cl C X.env) fp) elt te)
    (hs : ∀ x, foldedSetIterable iter X.env x = pure x := by intro _; rfl) : PE X (.SetComp elt [⟨tg, iter, ifs, 0⟩] scope pos) (tSi X.w wi g tt te (own.map (·.2))) := by
  refine ⟨fun pins s σ H Q I h => ?_⟩
  have fr : ∀ y ∈ scope.names, y.2 = .free → ∃ c, X.env.cells.lookup y.1 = some c := fun y hy e => (ok.free y hy e).elim (fun k => I.ok.has _ (.inl k)) fun k => I.ok.has _ (.inr k)
  rw [arm_eval_SetComp]
  refine wpAny_comprehension_free (use := none) rfl hs (closure_ok fr) ok.kind (fun y hy e => by rw [ok.uniq y hy, e]) ?_
  refine thn (hi.run pins s σ H _ I h) fun xv s1 hx => thn hx fun itv s2 ⟨it, fp, tn, J, H2, ei, I2, T, st2, f2, q⟩ => ?_
  subst ei
  -- the new set, at D
  refine wpAny_newSet_raw fun led hled => newEnv_comp ?_
  subst hled
  have fresh := setR_fresh (h := s2.heap) X.w
  generalize eD : s2.heap.objs.size = D at fresh ⊢
  generalize eo : ({ cls := .type "set", dict := none, data := .set #[] 0 (.fresh 0 0 (!X.w.params.followText "set-order")) } : Obj) = ob at fresh ⊢
  have nD : H2 D = none := I2.hok.fresh (Nat.le_of_eq eD)
  obtain ⟨W, ⟨m0, w0⟩, turn⟩ := q D nD
  have eS : SetI X.w D [] = SetO X.w D (fun _ => false) 0 := by unfold SetI; congr 1
  have kp : ∀ b o, s2.heap.get? b = some o → (s2.heap.push ob).get? b = some o := fun b o e => Heap.get?_push_of_some _ e
  have I3 : Inv X pins σ (upd H2 D (SetI X.w D [])) { s2 with heap := s2.heap.push ob } := I2.laid (t' := s2.toks) kp (Nat.le_of_eq eD) (by rw [eS]; exact setO_new fresh)
  have young : ∀ b ∈ fp, b < D := fun b hb => by
    obtain ⟨o, e, _⟩ := T.obj _ _ st2 b hb
    rw [← eD]; exact Heap.lt_size e
  generalize e3 : ({ s2 with heap := s2.heap.push ob } : Shared) = s3 at I3
  have h3 : s3.heap = s2.heap.push ob := by rw [← e3]
  generalize e4 : upd H2 D (SetI X.w D []) = H3 at I3 w0
  have f3 : ∀ b ∈ fp, FpOk X pins H3 b ∧ b < s3.heap.objs.size := fun b hb => by
    have hlt := young b hb
    refine ⟨⟨?_, (f2 b hb).2⟩, by rw [h3, Heap.size_push, eD]; exact Nat.lt_succ_of_lt hlt⟩
    rw [← e4, upd_ne (Nat.ne_of_lt hlt)]
    exact (f2 b hb).1
  have I4 := block_start I3 ok hN f3
  have pg := hg s3 H3 s3.heap.objs.size (cellsFrom (s3.heap.objs.size + 1) scope.names (cloFrom X.env.cells scope.names [])) fp
  have pt := ht s3 H3 s3.heap.objs.size (cellsFrom (s3.heap.objs.size + 1) scope.names (cloFrom X.env.cells scope.names [])) fp
  have pe := he s3 H3 s3.heap.objs.size (cellsFrom (s3.heap.objs.size + 1) scope.names (cloFrom X.env.cells scope.names [])) fp
  show codeAny _ _ (.compStart (.SetComp elt [⟨tg, iter, ifs, 0⟩] scope pos) 0 (.ref it) (.ref D) (compEnvC scope (cellsFrom (s3.heap.objs.size + 1) scope.names (cloFrom X.env.cells scope.names [])) s3.heap.objs.size X.env)) (compPost (model X.prog X.w) X.A X.xe none _ (.ref D) s3.heap.objs.size) { s3 with heap := pushCells (s3.heap.push { cls := .type "dict", data := .dict #[] }) scope.names }
  generalize ece : compEnvC scope (cellsFrom (s3.heap.objs.size + 1) scope.names (cloFrom X.env.cells scope.names [])) s3.heap.objs.size X.env = ce at I4 pg pt pe ⊢
  have cL : ce.locals = s3.heap.objs.size := by subst ece; rfl
  generalize e6 : ({ s3 with heap := pushCells (s3.heap.push { cls := .type "dict", data := .dict #[] }) scope.names } : Shared) = s4 at I4 ⊢
  have st4 : tn 0 s4.heap := T.keep _ _ _ st2 fun b _ o e => by
    rw [← e6]
    refine pushCells_keeps _ _ _ _ (Heap.get?_push_of_some _ ?_)
    rw [h3]
    exact kp b o e
  -- an iterator's objects, seen from the block
  have own_ : ∀ {σ' : L2.St} {H' : Hp} {s' : Shared}, Inv (X.blk s3 H3 scope ce fp) [] σ' H' s' → (∀ b ∈ fp, H' b = none) → ∀ b ∈ fp, FpOk (X.blk s3 H3 scope ce fp) [] H' b := fun I' hn b hb =>
    ⟨hn b hb, (I'.ok.exf b hb).1, I'.ok.exfs b hb, .inl hb, (I'.ok.exf b hb).2, fun p hp => absurd (show p ∈ ([] : List (Addr × Obj)) ++ [] from hp) (by simp)⟩
  have loop : codeAny (model X.prog X.w) X.A (.compLoop (.SetComp elt [⟨tg, iter, ifs, 0⟩] scope pos) 0 (.ref it) (.ref D) ce) (compPost (model X.prog X.w) X.A X.xe none (EP X pins σ Q) (.ref D) s3.heap.objs.size) s4 := by
    refine compLoop_set_any (fun n s' => ∃ i H', (Inv (X.blk s3 H3 scope ce fp) [] (wipe σ (own.map (·.2))) H' s' ∧ tn i s'.heap ∧ ∀ b ∈ fp, H' b = none) ∧ W i n H') ?_ m0 ⟨0, H3, ⟨I4, st4, fun b hb => (f3 b hb).1.1⟩, w0⟩
    rintro n s5 ⟨i, H5, ⟨I5, st5, n5⟩, w5⟩
    rcases turn i n H5 w5 with ⟨stop, qq⟩ | ⟨go, Nx, hNx, step⟩
    · refine thnF (T.done (X.blk s3 H3 scope ce fp) rfl rfl rfl hc i [] s5 _ H5 (fun _ _ => False) I5 (own_ I5 n5) st5 stop) fun r s6 ⟨hr, I6⟩ => ?_
      subst hr
      have I7 : Inv X pins σ H5 s6 := I3.call' (ch := fp) I6.os I6.base I6.hok I6.bare fun b hb => ⟨(f3 b hb).1.2.2.2.1, (f3 b hb).1.2.1, (f3 b hb).1.2.2.2.2.1, (f3 b hb).1.2.2.2.2.2⟩
      obtain ⟨m, hn, _⟩ := I6.loc
      have nC : H5 ce.locals = none := I6.free
      have hn : s6.heap.Ns ce.locals m := hn
      rw [cL] at hn nC
      refine ⟨m, hn, fun h'' sb => ?_⟩
      obtain ⟨a0, a1, _, a3, a4, a5⟩ := I3.fpOk (Nat.le_refl _) nC
      exact ⟨.ref D, H5, I7.turned (t' := s6.toks) (fun b o hb e => (sb.2 b hb).trans e) a0 a1 a3 a4 a5, rfl, qq⟩
    · refine thnF (T.item (X.blk s3 H3 scope ce fp) rfl rfl rfl hc i [] s5 _ H5 (fun _ _ => False) I5 (own_ I5 n5) st5 go) fun r s6 ⟨u, hr, h6⟩ => ?_
      subst hr
      refine thnF h6 fun _ s7 ⟨x, H7, I7, r7, y7, st7, n7⟩ => ?_
      have I7' := I7.pinned (own_ I7 n7) (T.obj _ _ st7)
      have next : ∀ {σ8 : L2.St} {s' : Shared} {H' : Hp}, wipe σ8 (own.map (·.2)) = wipe (wipe σ (own.map (·.2))) [] → Inv (X.blk s3 H3 scope ce fp) ([] ++ pinsAt fp s7.heap) σ8 H' s' → Nx H' →
          ∃ m, m < n ∧ ∃ i H', (Inv (X.blk s3 H3 scope ce fp) [] (wipe σ (own.map (·.2))) H' s' ∧ tn i s'.heap ∧ ∀ b ∈ fp, H' b = none) ∧ W i m H' := fun {σ8 s' H'} hw I' nx => by
        obtain ⟨m', hm, w'⟩ := hNx H' nx
        have hw : wipe σ8 (own.map (·.2)) = wipe σ (own.map (·.2)) := hw
        have pin : ∀ b ∈ fp, ∀ o, s7.heap.get? b = some o → s'.heap.get? b = some o ∧ H' b = none := fun b hb o e =>
          have z := I'.pin (b, o) (List.mem_append_right _ (List.mem_append_right _ (mem_pinsAt hb e)))
          ⟨z.1, z.2.1⟩
        refine ⟨m', hm, i + 1, H', ⟨(I'.unpinned (pins := [])).weak (by rw [← hw, wipe_length]) (fun j v e => (wipe_some (hw ▸ e)).1), T.keep _ _ _ st7 fun b hb o e => (pin b hb o e).1, fun b hb => ?_⟩, w'⟩
        obtain ⟨o, e, _⟩ := T.obj _ _ st7 b hb
        exact (pin b hb o e).2
      refine thnF (pg.run _ s7 _ H7 x u _ I7' r7 (step x H7 y7)) fun _ s8 ⟨σ8, H8, I8, hw8, q8⟩ => ?_
      refine thnF (pt.run _ s8 σ8 H8 _ I8 q8) fun b s9 ⟨H9, I9, q9⟩ => ?_
      cases b with
      | false => exact next hw8 I9 q9
      | true =>
        rw [if_pos rfl] at q9 ⊢
        refine thnF (pe.run _ s9 σ8 H9 _ I9 q9) fun z s10 ⟨yv, H10, I10, r10, ks, k, ey, hD10, hz10, nx⟩ => ?_
        subst ey
        exact sput (X := X.blk s3 H3 scope ce fp) I10 hD10 hz10 r10 fun _ s11 I11 => next hw8 I11 nx
  exact codeAny_compStart_set loop (T.self X.A 0 _ _ _ st4 loop)
end
end Pv

/-! Pv31: sorted of a set of numbers, of any size; set(a list of ii). Steps of the machine go as in the library's set(a tuple of ii) (HandS.SetFor), whose loop lemma (set_update_ints) is used. -/
namespace Pv
open PySem PySem.Spec PyProof.Rows L2
section
variable {P : Program} {w : World} {A : Around} {E : Value → Shared → Prop} {s : Shared}
/-- sorted of the set at a -/
theorem sorted_setA {a : Addr} {S : Int → Bool} {n : Nat} {Q : Value → Shared → Prop} (R : SetR w s.heap a S n) (hh : A.handled = none)
    (k : ∀ s' p (out : List Value) (c : Nat) (ns : List Int), (∀ b o, s.heap.get? b = some o → s'.heap.get? b = some o) → s'.gens = s.gens → s'.os = s.os → s.heap.objs.size ≤ p →
      s'.heap.get? p = some (seqObj "list" out.toArray c) → IntsAre out ns → ns.Pairwise (· < ·) → (∀ k, k ∈ ns ↔ S k = true) → ns.length < scanBound → Q (.ref p) s') :
    wpAny (model P w) A (call (.builtin "sorted") [.ref a]) Q E s := by
  obtain ⟨ob, es, ep, t, get, exact_, dat, good, nodup, mem, small, fits, cnt, ris, led⟩ := R
  refine Calls.call_function_entry kind_sorted plain_sorted entry_sorted (args_sorted1 _) ?_
  unfold Builtin.«sorted»
  refine wpAny_bind (m := checkCount "sorted" 1 1 _) (wpAny_pure (wpAny_bind (collect_set (A := A.in1) hh ⟨ob, get, exact_.1, dat⟩ fits small ris led fun s1 vs old _ g1 o1 perm => ?_)))
  have vl : vs.length = es.size := by rw [perm.length_eq, List.length_map, Array.length_toList]
  have ii : IntsAre vs (vs.map SrtO.iv) := SrtO.ints_iv fun v hv => by
    obtain ⟨e, he, rfl⟩ := List.mem_map.mp (perm.mem_iff.mp hv)
    obtain ⟨j, tj, q, _⟩ := good e he
    exact ⟨j, tj, q⟩
  have keys : (vs.map SrtO.iv).Perm (es.toList.map keyOf) := by
    have q := perm.map SrtO.iv
    rw [List.map_map] at q
    refine q.trans (List.Perm.of_eq (List.map_congr_left fun e he => ?_))
    obtain ⟨j, tj, q, _⟩ := good e he
    simp only [Function.comp, keyOf, q]
    rfl
  have hsz : vs.length ≤ sizeLine := by have : sizeLine = 16777216 := sizeLine_eq; have : scanBound = 4096 := rfl; omega
  refine wpAny_bind (wpAny_newList ?_ hsz)
  have lst : (s1.heap.push (seqObj "list" vs.toArray 0)).get? s1.heap.objs.size = some (seqObj "list" vs.toArray 0) := Heap.get?_push_size _ rfl
  refine wpAny_bind (wpAny_holding (wpAny_call_entry slot_list_sort ⟨_, lst, rfl⟩ entry_list_sort (SrtO.list_sort_ord SrtO.swo_int lst hsz (fun h2 => SrtO.ints_sortable ii h2) fun out h1 h2 => ⟨.none, rfl, ?_⟩) (args_list_sort _)))
  obtain ⟨k1, k2, k3⟩ := SrtO.ints_out ii h1 h2
  obtain ⟨c, hc⟩ := sortedHeap_at (vs := vs) (out := out.toArray) lst
  have pk := k2.trans keys
  have le : s.heap.objs.size ≤ s1.heap.objs.size := by assumption
  refine wpAny_pure ⟨_, rfl, k _ s1.heap.objs.size out c _ (fun b u e => ?_) g1 o1 le hc k1 ?_ (fun j => by rw [pk.mem_iff, ← mem j]) (by rw [pk.length_eq, List.length_map, Array.length_toList]; exact small)⟩
  · have q := old b u e
    have lt := Heap.lt_size q
    show (sortedHeap (s1.heap.push (seqObj "list" vs.toArray 0)) s1.heap.objs.size vs out.toArray).get? b = some u
    rw [sortedHeap_old (Nat.ne_of_lt lt) (by rw [size_push']; exact Nat.lt_succ_of_lt lt)]
    exact Heap.get?_push_of_some _ q
  · have nd : (out.map SrtO.iv).Nodup := pk.nodup_iff.mpr nodup
    exact (List.pairwise_and_iff.mpr ⟨k3, nd⟩).imp fun ⟨x, y⟩ => Int.lt_iff_le_and_ne.mpr ⟨x, y⟩
end
section
variable {X : Cx}
/-- sorted(set of ii) -/
def rSortSI (w : World) : List V → Hp → VK → Prop := fun vs H Q => ∃ (a : Addr) (ks : List Int) (n : Nat), vs = [V.ref a] ∧ H a = some (SetO w a (inS ks) n) ∧
  ∀ (ns : List Int) (p : Addr), ns.Pairwise (· < ·) → (∀ k : Int, k ∈ ns ↔ k ∈ ks) → H p = none → Q (.ref p) (upd H p (.lst (ns.map V.int)))
theorem cr_sortSI (hc : X.calm = true) : CallR X (.builtin "sorted") (rSortSI X.w) := by
  intro pins s σ H vs us Q I r h
  obtain ⟨a, ks, n, rfl, ha, q⟩ := h
  have R := setO_get I ha
  rw [Vals.ref1 r]
  refine sorted_setA R (I.ok.hd hc) fun s' p out c ns old g o hp hg hi hs hm hl => ?_
  have hlen : (ns.map V.int).length ≤ sizeLine := by rw [List.length_map, sizeLine_eq]; have : scanBound = 4096 := rfl; omega
  have hn : H p = none := I.hok.fresh hp
  have J : Inv X pins σ (upd H p (.lst (ns.map V.int))) { s with heap := s'.heap, gens := s'.gens, drawn := s'.drawn, toks := s'.toks } :=
    I.call (ch := []) (Un.laid old hp hn) (I.hok.laid old hp ⟨hlen, out, c, vals_of_ints hi, hg⟩) (by rw [g]; exact I.bare) (fun _ z => nomatch z)
  have e : s' = { s with heap := s'.heap, gens := s'.gens, drawn := s'.drawn, toks := s'.toks } := by
    cases s'
    cases s
    cases o
    rfl
  rw [e]
  exact ⟨.ref p, _, J, rfl, q ns p hs (fun k => by rw [hm k]; exact decide_eq_true_iff) hn⟩
end
end Pv

/-! Pv32: sorted({.. for ..}) and sorted(set(a list)) of ints, as functions. -/
namespace Pv
open PySem PySem.Spec PyProof.Rows L2
/-! ### plain: strictly ascending lists -/
def insI (k : Int) : List Int → List Int
  | [] => [k]
  | j :: l => if k < j then k :: j :: l else if k = j then j :: l else j :: insI k l
def srtI (ks : List Int) : List Int := ks.foldr insI []
theorem mem_insI {k x : Int} : ∀ {l : List Int}, x ∈ insI k l ↔ x = k ∨ x ∈ l
  | [] => by simp [insI]
  | j :: l => by
    unfold insI
    split
    · simp
    · split
      · rename_i h; subst h; simp
      · rw [List.mem_cons, mem_insI (l := l), List.mem_cons]
        constructor
        · rintro (h | h | h) <;> simp [h]
        · rintro (h | h | h) <;> simp [h]
theorem insI_asc {k : Int} : ∀ {l : List Int}, l.Pairwise (· < ·) → (insI k l).Pairwise (· < ·)
  | [], _ => by simp [insI]
  | j :: l, h => by
    obtain ⟨h1, h2⟩ := List.pairwise_cons.mp h
    unfold insI
    split
    · rename_i hk
      refine List.pairwise_cons.mpr ⟨fun x hx => ?_, h⟩
      rcases List.mem_cons.mp hx with rfl | hx
      · exact hk
      · exact Int.lt_trans hk (h1 x hx)
    · split
      · exact h
      · refine List.pairwise_cons.mpr ⟨fun x hx => ?_, insI_asc h2⟩
        rcases mem_insI.mp hx with rfl | hx
        · omega
        · exact h1 x hx
theorem srtI_asc : ∀ ks : List Int, (srtI ks).Pairwise (· < ·)
  | [] => List.Pairwise.nil
  | k :: ks => insI_asc (srtI_asc ks)
theorem mem_srtI {x : Int} : ∀ {ks : List Int}, x ∈ srtI ks ↔ x ∈ ks
  | [] => by simp [srtI]
  | k :: ks => by
    show x ∈ insI k (srtI ks) ↔ _
    rw [mem_insI, mem_srtI (ks := ks), List.mem_cons]
theorem asc_ext : ∀ {a b : List Int}, a.Pairwise (· < ·) → b.Pairwise (· < ·) → (∀ x, x ∈ a ↔ x ∈ b) → a = b
  | [], [], _, _, _ => rfl
  | [], y :: b, _, _, h => by have := (h y).mpr (by simp); simp at this
  | x :: a, [], _, _, h => by have := (h x).mp (by simp); simp at this
  | x :: a, y :: b, ha, hb, h => by
    obtain ⟨a1, a2⟩ := List.pairwise_cons.mp ha
    obtain ⟨b1, b2⟩ := List.pairwise_cons.mp hb
    have e : x = y := by
      rcases List.mem_cons.mp ((h x).mp (by simp)) with e | e
      · exact e
      · rcases List.mem_cons.mp ((h y).mpr (by simp)) with e' | e'
        · exact e'.symm
        · have := b1 x e
          have := a1 y e'
          omega
    subst e
    rw [asc_ext a2 b2 fun z => ?_]
    have := h z
    rw [List.mem_cons, List.mem_cons] at this
    constructor
    · intro hz
      rcases this.mp (Or.inr hz) with e | e
      · have := a1 z hz
        omega
      · exact e
    · intro hz
      rcases this.mpr (Or.inr hz) with e | e
      · have := b1 z hz
        omega
      · exact e
theorem srtI_of {ns ks : List Int} (h1 : ns.Pairwise (· < ·)) (h2 : ∀ k, k ∈ ns ↔ k ∈ ks) : ns = srtI ks := asc_ext h1 (srtI_asc ks) fun x => (h2 x).trans mem_srtI.symm
/-! ### sorted({elt for target in iter if ..}) -/
section
variable {X : Cx} {W : WX} {H H' H'' H0 H1 : Hp} {g g' g'' g0 g1 : G} {S S' S'' S0 S1 : Sto} {σ : L2.St} {Γ : Gam}
/-- the walk: the ints met, the last one first -/
def siI (st : Stp) (gt : GF) (tt : BF) (te : EF) (Γ : Gam) : Nat → Nat → List Int → Sto → R (List Int)
  | 0, _, _, _ => .bad
  | m + 1, i, acc, S => match st S i with
    | none => .bad
    | some none => .ok acc S
    | some (some p) => match gt p Γ S with
      | .ok Γ1 S1 => match tt Γ1 S1 with
        | .ok true S2 => match te Γ1 S2 with
          | .ok (.int k) S3 => if acc.length < 4000 then siI st gt tt te Γ m (i + 1) (k :: acc) S3 else .bad
          | _ => .bad
        | .ok false S2 => siI st gt tt te Γ m (i + 1) acc S2
        | _ => .bad
      | _ => .bad
def eSi (mu : Bool) (it : IF) (gt : GF) (tt : BF) (te : EF) (vs : List Nat) : EF := fun Γ S => (it Γ S).bind fun q S1 => (siI q.1 gt tt te (wipeG Γ vs) q.2 0 [] S1).bind fun acc S2 => .ok (newP mu .lst ((srtI acc).map .int) S2).1 (newP mu .lst ((srtI acc).map .int) S2).2
theorem si_noex {st : Stp} {gt : GF} {tt : BF} {te : EF} {Γ : Gam} : ∀ m i acc S, (∃ acc' S', siI st gt tt te Γ m i acc S = .ok acc' S') ∨ siI st gt tt te Γ m i acc S = .bad
  | 0, i, acc, S => Or.inr rfl
  | m + 1, i, acc, S => by
    unfold siI
    split
    · exact Or.inr rfl
    · exact Or.inl ⟨_, _, rfl⟩
    · split
      · split
        · split
          · split
            · exact si_noex m _ _ _
            · exact Or.inr rfl
          · exact Or.inr rfl
        · exact si_noex m _ _ _
        · exact Or.inr rfl
      · exact Or.inr rfl
/-- a new object beside the store -/
theorem grw_new {Y : Kx} {D : Addr} {o : HO} (r : Rel Y H1 g1 S1) (hD : H1 D = none) : Grw Y H1 g1 S1 D (upd H1 D o) g1 S1 := by
  have up : Up H1 g1 S1.length (upd H1 D o) g1 S1.length := ⟨fun a u h _ => by rw [upd_ne (ne_of_none h hD)]; exact h, fun _ h => h, fun _ h => h, fun _ _ => rfl, Nat.le_refl _⟩
  have own : ∀ n, Al S1 n → g1.r n ≠ D := fun n hn z => by
    obtain ⟨u, e⟩ := r.tracked hn
    rw [z, hD] at e; cases e
  refine ⟨⟨⟨fun n k xs q => ?_, r.inj, r.fF, r.fT, fun a z => ?_⟩, fun a u h _ => by rw [upd_ne (ne_of_none h hD)]; exact h, fun n hn => Or.inl ⟨hn, rfl⟩, fun _ _ => rfl, Nat.le_refl _, fun _ h => h, rfl, fun a u h => ⟨u, by rw [upd_ne (ne_of_none h hD)]; exact h⟩, fun _ h => Or.inl h⟩, hD, own, fun z => ?_, fun z => ?_⟩
  · obtain ⟨u, ws, q1, q2, q3, q4⟩ := r.ob n k xs q
    exact ⟨u, ws, by rw [upd_ne (own n ⟨_, q⟩)]; exact q1, q2, q3, RVs.mono up _ _ q4⟩
  · by_cases z2 : a = D
    · exact ⟨_, by rw [z2, upd_same]⟩
    · rw [upd_ne z2]; exact r.tr a z
  · obtain ⟨u, q⟩ := r.tr D (Or.inl z); rw [hD] at q; cases q
  · obtain ⟨u, q⟩ := r.tr D (Or.inr z); rw [hD] at q; cases q
theorem si_imp {wi : TI} {gV : TG} {gt : GF} {tt : BF} {te : EF} {it : IF} {vs : List Nat} {mu : Bool} (src : SrcOK X W wi it) (cg : CG X gV gt vs) {σ : L2.St} {H : Hp} {Q : VK} (h : lift X W (eSi mu it gt tt te vs) σ H Q) :
    tSi X.w wi gV (liftB X W0 tt) (lift X W0 te) vs σ H fun x H1 => rSortSI X.w [x] H1 Q := by
  obtain ⟨g, Γ, S, rel, rg, ok⟩ := h
  refine src σ H g Γ S _ rel rg (OKw.mono (OKw.bind ok) fun q S1 g1 H1 _ e1 h1 J hJ D hD => ?_)
  have h1 : OKw X W σ H1 g1 S1 ((siI q.1 gt tt te (wipeG Γ vs) q.2 0 [] S1).bind fun acc S2 => .ok (newP mu .lst ((srtI acc).map .int) S2).1 (newP mu .lst ((srtI acc).map .int) S2).2) (fun v S' g' H' => ∀ x, RV X H' g' S'.length v x → Q x H') := h1
  obtain ⟨res, Sr, hres⟩ : ∃ res Sr, siI q.1 gt tt te (wipeG Γ vs) q.2 0 [] S1 = .ok res Sr := by
    rcases si_noex (st := q.1) (gt := gt) (tt := tt) (te := te) (Γ := wipeG Γ vs) q.2 0 [] S1 with h | h
    · exact h
    · rw [h] at h1; exact h1.elim
  rw [hres] at h1
  have fin : ∀ g' H', Ext X H1 g1 S1 H' g' (newP mu .lst ((srtI res).map .int) Sr).2 → ∀ x, RV X H' g' (newP mu .lst ((srtI res).map .int) Sr).2.length (newP mu .lst ((srtI res).map .int) Sr).1 x → Q x H' := fun g' H' e x rx => h1 g' H' e x rx
  have w0 : Grw X H1 g1 S1 D (upd H1 D (SetI X.w D [])) g1 S1 := grw_new e1.rel hD
  refine ⟨fun i m H2 => ∃ g2 S2 acc, Grw X H1 g1 S1 D H2 g2 S2 ∧ H2 D = some (SetI X.w D acc) ∧ siI q.1 gt tt te (wipeG Γ vs) m i acc S2 = .ok res Sr, ⟨q.2, g1, S1, [], w0, upd_same, hres⟩, ?_⟩
  rintro i m H2 ⟨g2, S2, acc, w2, hD2, hl⟩
  cases m with
  | zero => cases hl
  | succ m =>
    obtain ⟨j1, j2⟩ := hJ g2 H2 S2 i w2.ext
    unfold siI at hl
    cases hst : q.1 S2 i with
    | none => rw [hst] at hl; cases hl
    | some z =>
      rw [hst] at hl
      cases z with
      | none =>
        cases hl
        refine Or.inl ⟨j2 hst, D, res, _, rfl, hD2, fun ns p n1 n2 hp => ?_⟩
        have e := srtI_of n1 n2
        subst e
        obtain ⟨g', q1, q2⟩ := new_ok (m := mu) w2.ext.rel hp (k := .lst) (o := .lst _) rfl (by decide) (RVs.mk_ints (srtI res))
        exact fin g' _ (w2.ext.trans q1) _ q2
      | some p =>
        obtain ⟨j3, j4⟩ := j1 p hst
        refine Or.inr ⟨j3, fun H3 => ∃ g3 S3 acc, Grw X H1 g1 S1 D H3 g3 S3 ∧ H3 D = some (SetI X.w D acc) ∧ siI q.1 gt tt te (wipeG Γ vs) m (i + 1) acc S3 = .ok res Sr, fun H3 h3 => ⟨m, Nat.lt_succ_self m, h3⟩, fun x H3 y => ?_⟩
        obtain ⟨g3, e3, rvx⟩ := j4 x H3 y
        obtain ⟨w3, hD3⟩ := w2.step hD2 e3
        have rg3 : RG X H3 g3 S2.length (wipeG Γ vs) (L2.wipe σ vs) := RG.wipe ((rg.up rel e1).up e1.rel w3.ext) vs
        cases hgt : gt p (wipeG Γ vs) S2 with
        | bad => simp only [hgt] at hl; cases hl
        | ex c fs S => simp only [hgt] at hl; cases hl
        | ok Γ4 S4 =>
          simp only [hgt] at hl
          refine cg.ok W x σ H3 g3 S2 _ p _ w3.ext.rel rg3 rvx Γ4 S4 hgt fun σ4 eS rg4 hw => ?_
          subst eS
          refine ⟨hw, ?_⟩
          cases htt : tt Γ4 S4 with
          | bad => simp only [htt] at hl; cases hl
          | ex c fs S => simp only [htt] at hl; cases hl
          | ok bv S5 =>
            simp only [htt] at hl
            refine ⟨g3, Γ4, S4, w3.ext.rel, rg4, ?_⟩
            rw [htt]
            intro g5 H5 e5
            obtain ⟨w5, hD5⟩ := w3.step hD3 e5
            cases bv with
            | false =>
              rw [if_neg Bool.false_ne_true]
              exact ⟨g5, S5, acc, w5, hD5, hl⟩
            | true =>
              rw [if_pos rfl]
              cases hte : te Γ4 S5 with
              | bad => simp only [hte] at hl; cases hl
              | ex c fs S => simp only [hte] at hl; cases hl
              | ok v S6 =>
                simp only [hte] at hl
                split at hl
                · rename_i k S7 e7
                  cases e7
                  split at hl
                  · rename_i hlen
                    refine ⟨g5, Γ4, S5, w5.ext.rel, rg4.up w3.ext.rel e5, ?_⟩
                    rw [hte]
                    intro g6 H6 e6 x6 rv6
                    obtain ⟨w6, hD6⟩ := w5.step hD5 e6
                    obtain ⟨w7, _⟩ := w6.put (o' := SetI X.w D (k :: acc)) hD6 trivial
                    exact ⟨acc, k, rv6.int_inv, hD6, by show acc.length + 1 < 4096; omega, g6, S6, k :: acc, w7, upd_same, hl⟩
                  · cases hl
                · cases hl
theorem E.sortSc {elt tg iter : Expr} {ifs : List Expr} {scope : Scope} {own : List (Str × Nat)} {gV : TG} {gt : GF} {tt : BF} {te : EF} {it : IF} {p pos pos2 : Pos} (mu : Bool) (hc : X.calm = true) (hgl : Gl X "sorted") (hm : X.mg "sorted" = none) (hN : X.N.Nodup) (hi : I X W tg iter it) (ok : BlkOk X.N X.env.scope scope own) (cg : CG X gV gt (own.map (·.2)))
    (hg : ∀ (s : Shared) (H : Hp) (C : Addr) (cl : List (Str × Addr)) (fp : List Addr), PG (X.blk s H scope (compEnvC scope cl C X.env) fp) tg gV)
    (ht : ∀ (s : Shared) (H : Hp) (C : Addr) (cl : List (Str × Addr)) (fp : List Addr), Ts (X.blk s H scope (compEnvC scope cl C X.env) fp) W0 ifs tt)
    (he : ∀ (s : Shared) (H : Hp) (C : Addr) (cl : List (Str × Addr)) (fp : List Addr), E (X.blk s H scope (compEnvC scope cl C X.env) fp) W0 elt te) (hs : ∀ x, foldedSetIterable iter X.env x = pure x := by intro _; rfl)
    (he2 : starEach [.SetComp elt [⟨tg, iter, ifs, 0⟩] scope pos] X.env = (false, eval (.SetComp elt [⟨tg, iter, ifs, 0⟩] scope pos) X.env) :: starEach [] X.env := by rfl) (hpl : (backTo pos2 (starEach [] X.env)).any (·.1) = false := by rfl) :
    E X W (.Call (.Name "sorted" p) [.SetComp elt [⟨tg, iter, ifs, 0⟩] scope pos] [] pos2) (eSi mu it gt tt te (own.map (·.2))) := by
  obtain ⟨wi, pi, src⟩ := hi
  refine pe_imp (pe_callB (cr_sortSI hc) hgl hm boot_sorted (pa_cons (pe_sci (tt := liftB X W0 tt) (te := lift X W0 te) hc hN pi ok hg ht he hs) pa_nil) (by decide) (by decide) he2 hpl) fun σ H Q h => ?_
  exact si_imp src cg h
end
end Pv

/-! Pv33: set(a list of numbers), sorted(set(a list)). The machine's steps are those of a set made of a tuple (library: HandS.SetFor, whose loop lemma is used), here for a list. -/
namespace Pv
open PySem PySem.Spec PyProof.Rows L2
section
variable {P : Program} {w : World} {A : Around} {E : Value → Shared → Prop} {s : Shared}
abbrev newS (w : World) : Obj := { cls := .type "set", dict := none, data := .set #[] 0 (.fresh 0 0 (!w.params.followText "set-order")) }
/-- what the set's __init__ owes -/
abbrev MadeS (w : World) (E : Value → Shared → Prop) (s : Shared) (S : Addr) (ns : List Int) : Result → Shared → Prop :=
  wants (fun r s₂ => r = .none ∧ ∃ h' tk c, s₂ = { s with heap := h', toks := tk } ∧ SetR w h' S (fun j => decide (j ∈ ns)) c ∧ ∀ b o, b ≠ S → s.heap.get? b = some o → h'.get? b = some o) E
theorem fill_setL {l S : Addr} {items : Array Value} (ns : List Int) (hh : A.handled = none) (lst : s.heap.IsList l items) (nums : IntsAre items.toList ns) (few : ns.length + 1 < scanBound) (at_ : s.heap.get? S = some (newS w)) (ne : S ≠ l) :
    wpAny (model P w) A (Builtin.«set.__init__» ⟨[.ref S, .ref l], []⟩) (fun fin s₂ => ∃ h' tk c, fin = .done (.ret .none) ∧ s₂ = { s with heap := h', toks := tk } ∧ SetR w h' S (fun j => decide (j ∈ ns)) c ∧ ∀ b o, b ≠ S → s.heap.get? b = some o → h'.get? b = some o) E s := by
  have many : items.size = ns.length := by
    have q := IntsAre.length nums
    rwa [Array.length_toList] at q
  obtain ⟨ob, get, cls, cap, dat⟩ := id lst
  obtain ⟨c1, c2, c3, c4⟩ := ob
  simp only at cls dat
  subst cls dat
  have z1 := F.sub_list_set
  have z2 := F.sub_list_frozenset
  have z3 : (Value.type "list" == Value.type "dict") = false := by decide
  unfold Builtin.«set.__init__» noKeywords Builtin.Frozenset.updateFrom
  generalize hPI : pyIter = PI
  wp_walk
  subst hPI
  refine wpAny_pyIter_list lst (wpAny_bind (wpAny_runValue ?_))
  have lS : l < s.heap.objs.size := Heap.lt_size get
  have hS := Heap.lt_size at_
  have apart : S ∉ [s.heap.objs.size, l] := by simp [ne]; exact Nat.ne_of_lt hS
  have h3 : A.in1.handled = none := by simp [hh]
  have val : ∀ (i : Nat) (v : Value), items[i]? = some v → ∃ k t, ns[i]? = some k ∧ v = .int k t := fun i v hv => by
    obtain ⟨t, e⟩ := IntsAre.int_at nums i v (by rw [Array.getElem?_toList]; exact hv)
    have hi : i < ns.length := by rw [← many]; exact (Array.getElem?_eq_some_iff.mp hv).1
    exact ⟨ns[i], t, List.getElem?_eq_getElem hi, by rw [e]; simp [List.getD, List.getElem?_eq_getElem hi]⟩
  refine set_update_ints ((Walks.list h3 _ l (Nat.ne_of_lt lS) items).toS) S apart ns many few val (items.size - 0) 0 _ (by omega) (Nat.zero_le _) ?_ ⟨0, Nat.le_refl _, ?_⟩ ?_
  · exact ⟨⟨_, Heap.get?_push_size _ rfl, rfl, rfl⟩, lst.push _⟩
  · exact setR_new_at (w := w) (Heap.get?_push_of_some _ at_)
  intro s' c m hc R
  obtain ⟨h', g', d', tk', os'⟩ := s'
  have e1 : g' = s.gens := m.gens
  have e2 : d' = s.drawn := m.drawn
  have e3 : os' = s.os := m.os
  subst e1 e2 e3
  refine wpAny_pure (wpAny_pure ⟨h', tk', c, rfl, rfl, R, fun b o hb e => ?_⟩)
  exact m.heap b o (by simp only [List.mem_cons, List.not_mem_nil, or_false, not_or]; exact ⟨hb, Nat.ne_of_lt (Heap.lt_size e)⟩) (Heap.get?_push_of_some _ e)
theorem call_setL {l : Addr} {items : Array Value} (ns : List Int) {Q : Value → Shared → Prop} (hh : A.handled = none) (lst : s.heap.IsList l items) (nums : IntsAre items.toList ns) (few : ns.length + 1 < scanBound)
    (k : ∀ (h' : Heap) (tk c : Nat), SetR w h' s.heap.objs.size (fun j => decide (j ∈ ns)) c → (∀ b o, s.heap.get? b = some o → h'.get? b = some o) → Q (.ref s.heap.objs.size) { s with heap := h', toks := tk }) :
    wpAny (model P w) A (call (.type "set") [.ref l]) Q E s := by
  have at_ : (s.heap.push (newS w)).get? s.heap.objs.size = some (newS w) := Heap.get?_push_size _ rfl
  have ty : Shared.TypeIs { s with heap := s.heap.push (newS w) } (.ref s.heap.objs.size) "set" := ⟨_, at_, rfl⟩
  have ne : s.heap.objs.size ≠ l := by
    obtain ⟨o, e, _⟩ := lst
    exact Nat.ne_of_gt (Heap.lt_size e)
  obtain ⟨k1, k2, k3⟩ := F.called_set.mro
  have k4 := F.called_set.made
  have k5 := F.called_set.sub
  have k6 := F.called_set.notType
  have k7 := F.called_set.canCreate
  have k8 := F.called_set.init.lookup
  have k9 := F.called_set.init.bind (.ref s.heap.objs.size)
  have k10 := F.typeCall_set_1 (.ref l)
  refine wpAny_call (codeAny_of_tree (wpAny_pure ⟨Code.quiet_builtin _ (by decide +kernel), codeAny_builtin F.entry_type_call ?_⟩))
  rw [Around.under_plain (weight_type_call_type "set" [.ref l] []) rfl]
  repeat (any_goals (first | assumption | wp_step))
  refine codeAny_mono (code_set_led1 (.ref l) (E := E) (Q₁ := fun obj s₁ => obj = .ref s.heap.objs.size ∧ s₁ = { s with heap := s.heap.push (newS w) }) ⟨rfl, rfl⟩) fun r s₁ hr => ?_
  match r, hr with
  | .error _, hr => exact hr
  | .ok (.ret _), ⟨e1, e2⟩ =>
    subst e1 e2
    repeat (any_goals (first | assumption | wp_step))
    refine codeAny_mono (codeAny_call_builtin (R := wants (fun r s₂ => r = .none ∧ Q (.ref s.heap.objs.size) s₂) E) F.called_set.init.plain F.entry_set_init (check_set_init_1 ty ?_)) fun r₂ s₂ hr₂ => ?_
    · refine wpAny_mono (fill_setL (s := { s with heap := s.heap.push (newS w) }) (S := s.heap.objs.size) ns (by simp [hh]) (lst.push _) nums few at_ ne) ?_ fun _ _ e => e
      rintro fin s₂ ⟨h', tk, c, rfl, rfl, R, keep⟩
      exact ⟨rfl, k h' tk c R fun b o e => keep b o (Nat.ne_of_lt (Heap.lt_size e)) (Heap.get?_push_of_some _ e)⟩
    · match r₂, hr₂ with
      | .error _, hr₂ => exact hr₂
      | .ok (.ret _), ⟨e1, q⟩ =>
        subst e1
        repeat (any_goals (first | assumption | wp_step))
end
section
variable {X : Cx} {W : WX} {H H' H'' : Hp} {g g' g'' : G} {S S' S'' : Sto}
def rSetL (K : PySem.W.Frag) (w : World) : List V → Hp → VK → Prop := fun xs H Q => ∃ (a : Addr) (ns : List Int), xs = [V.ref a] ∧ SqL K H a (ns.map V.int) ∧ ns.length < 4000 ∧ ∀ p c, H p = none → Q (.ref p) (upd H p (SetO w p (inS ns) c))
theorem cr_setL (hc : X.calm = true) : CallR X (.type "set") (rSetL X.K X.w) := by
  intro pins s σ H xs us Q I r h
  obtain ⟨a, ns, rfl, hs, hz, q⟩ := h
  obtain ⟨its, rv, hl, _⟩ := I.list hs
  rw [Vals.ref1 r]
  have hi := rv.ints
  refine call_setL ns (I.ok.hd hc) hl.isList hi (by show ns.length + 1 < 4096; omega) fun h' tk c R keep => ?_
  exact ⟨.ref _, _, I.laid (t' := tk) keep (Nat.le_refl _) (setO_new R), rfl, q _ c (I.hok.fresh (Nat.le_refl _))⟩
def intsOf : List PV → Option (List Int)
  | [] => some []
  | .int i :: ps => (intsOf ps).map (i :: ·)
  | _ => none
theorem intsOf_map (ns : List Int) : intsOf (ns.map PV.int) = some ns := by
  induction ns with
  | nil => rfl
  | cons n ns ih => show (intsOf (ns.map PV.int)).map _ = _; rw [ih]; rfl
theorem intsOf_rv {Y : Kx} {L : Nat} : ∀ {xs : List PV} {vs : List V} {ns : List Int}, RVs Y H g L xs vs → intsOf xs = some ns → vs = ns.map V.int
  | [], vs, ns, h, e => by
    simp only [RVs] at h
    cases e
    exact h
  | x :: xs, vs, ns, h, e => by
    simp only [RVs] at h
    obtain ⟨v, r, rfl, h2, h3⟩ := h
    cases x with
    | int i =>
      obtain ⟨ms, e1, rfl⟩ := Option.map_eq_some_iff.mp (show (intsOf xs).map (i :: ·) = some ns from e)
      rw [h2.int_inv, intsOf_rv h3 e1]; rfl
    | _ => cases e
/-- sorted(set(e)), e a list of numbers -/
def eSs (mu : Bool) (t : EF) : EF := fun Γ S => (t Γ S).bind fun p S1 => match deref S1 p with
  | some (.lst, xs) => match intsOf xs with
    | some ns => if ns.length < 4000 then .ok (newP mu .lst ((srtI ns).map .int) S1).1 (newP mu .lst ((srtI ns).map .int) S1).2 else .bad
    | none => .bad
  | _ => .bad
theorem E.sortSet {e : Expr} {te : EF} {p p2 pos pos2 : Pos} (mu : Bool) (hc : X.calm = true) (hg : Gl X "sorted") (hm : X.mg "sorted" = none) (hg2 : Gl X "set") (hm2 : X.mg "set" = none) (he : E X W e te)
    (h1 : starEach [e] X.env = (false, eval e X.env) :: starEach [] X.env := by rfl) (h1p : (backTo pos2 (starEach [] X.env)).any (·.1) = false := by rfl)
    (h2 : starEach [.Call (.Name "set" p2) [e] [] pos2] X.env = (false, eval (.Call (.Name "set" p2) [e] [] pos2) X.env) :: starEach [] X.env := by rfl) (h2p : (backTo pos (starEach [] X.env)).any (·.1) = false := by rfl) :
    E X W (.Call (.Name "sorted" p) [.Call (.Name "set" p2) [e] [] pos2] [] pos) (eSs mu te) := by
  refine pe_imp (pe_callB (cr_sortSI hc) hg hm boot_sorted (pa_cons (pe_callTy (cr_setL hc) hg2 hm2 boot_set (pa_cons he pa_nil h1) (by decide) (by decide) h1 h1p) pa_nil h2) (by decide) (by decide) h2 h2p) fun σ H Q ⟨g, Γ, S, rel, rg, ok⟩ => ?_
  refine ⟨g, Γ, S, rel, rg, OKw.mono (OKw.bind ok) fun v S1 g1 H1 _ e1 h1 x rx => ?_⟩
  split at h1
  · rename_i xs hd
    split at h1
    · rename_i ns hn
      split at h1
      · rename_i hz
        obtain ⟨a, vs, rfl, q2, q3⟩ := deref_ok e1.rel rx hd
        have ev := intsOf_rv q2 hn
        subst ev
        refine ⟨a, ns, rfl, q3.lst, hz, fun D c hD => ?_⟩
        have w := grw_new (o := SetO X.w D (inS ns) c) e1.rel hD
        refine ⟨D, ns, c, rfl, upd_same, fun ms p m1 m2 hp => ?_⟩
        have em := srtI_of m1 m2
        subst em
        obtain ⟨g', z1, z2⟩ := new_ok (m := mu) w.ext.rel hp (k := .lst) (o := .lst _) rfl (by decide) (RVs.mk_ints (srtI ns))
        exact h1 g' _ (w.ext.trans z1) _ z2
      · exact h1.elim
    · exact h1.elim
  · exact h1.elim
end
end Pv

/-! Pv34: sorted(a list of numbers). -/
namespace Pv
open PySem PySem.Spec PyProof.Rows L2
def insL (k : Int) : List Int → List Int
  | [] => [k]
  | j :: l => if k ≤ j then k :: j :: l else j :: insL k l
def srtL (ks : List Int) : List Int := ks.foldr insL []
theorem insL_perm {k : Int} : ∀ {l : List Int}, (insL k l).Perm (k :: l)
  | [] => List.Perm.refl _
  | j :: l => by
    unfold insL
    split
    · exact List.Perm.refl _
    · exact (List.Perm.cons j insL_perm).trans (List.Perm.swap k j l)
theorem srtL_perm : ∀ {ks : List Int}, (srtL ks).Perm ks
  | [] => List.Perm.refl _
  | k :: ks => insL_perm.trans (List.Perm.cons k srtL_perm)
theorem insL_asc {k : Int} : ∀ {l : List Int}, l.Pairwise (· ≤ ·) → (insL k l).Pairwise (· ≤ ·)
  | [], _ => by simp [insL]
  | j :: l, h => by
    obtain ⟨h1, h2⟩ := List.pairwise_cons.mp h
    unfold insL
    split
    · rename_i hk
      refine List.pairwise_cons.mpr ⟨fun x hx => ?_, h⟩
      rcases List.mem_cons.mp hx with rfl | hx
      · exact hk
      · exact Int.le_trans hk (h1 x hx)
    · refine List.pairwise_cons.mpr ⟨fun x hx => ?_, insL_asc h2⟩
      rcases List.mem_cons.mp (insL_perm.mem_iff.mp hx) with rfl | hx
      · omega
      · exact h1 x hx
theorem srtL_asc : ∀ ks : List Int, (srtL ks).Pairwise (· ≤ ·)
  | [] => List.Pairwise.nil
  | k :: ks => insL_asc (srtL_asc ks)
theorem le_ext : ∀ {a b : List Int}, a.Pairwise (· ≤ ·) → b.Pairwise (· ≤ ·) → a.Perm b → a = b
  | [], b, _, _, h => (List.nil_perm.mp h).symm
  | x :: a, [], _, _, h => by have := h.length_eq; simp at this
  | x :: a, y :: b, ha, hb, h => by
    obtain ⟨a1, a2⟩ := List.pairwise_cons.mp ha
    obtain ⟨b1, b2⟩ := List.pairwise_cons.mp hb
    have e : x = y := by
      rcases List.mem_cons.mp (h.mem_iff.mp (List.mem_cons_self (a := x))) with e | e
      · exact e
      · rcases List.mem_cons.mp (h.mem_iff.mpr (List.mem_cons_self (a := y))) with e' | e'
        · exact e'.symm
        · have := b1 x e
          have := a1 y e'
          omega
    subst e
    rw [le_ext a2 b2 (List.Perm.cons_inv h)]
theorem srtL_of {ns ks : List Int} (h1 : ns.Perm ks) (h2 : ns.Pairwise (· ≤ ·)) : ns = srtL ks := le_ext h2 (srtL_asc ks) (h1.trans srtL_perm.symm)
/-- of distinct numbers both sorts give the same -/
theorem srtL_nodup {ks : List Int} (h : ks.Nodup) : srtL ks = srtI ks := by
  have nd : (srtL ks).Nodup := srtL_perm.nodup_iff.mpr h
  refine asc_ext ((List.pairwise_and_iff.mpr ⟨srtL_asc ks, nd⟩).imp fun ⟨x, y⟩ => Int.lt_iff_le_and_ne.mpr ⟨x, y⟩) (srtI_asc ks) fun x => ?_
  rw [srtL_perm.mem_iff, mem_srtI]
section
variable {X : Cx} {W : WX} {H H' : Hp} {g g' : G} {S S' : Sto}
def sortF (mu : Bool) : CF := fun ps S => match ps with
  | [p] => match deref S p with
    | some (.lst, xs) => match intsOf xs with
      | some ns => some (newP mu .lst ((srtL ns).map .int) S)
      | none => none
    | _ => none
  | _ => none
theorem cf_sort {mu : Bool} : CallF X (rSortedI X.K) (sortF mu) := by
  intro H g S ps xs w S' Q rel rxs h k
  unfold sortF at h
  split at h
  · rename_i p
    simp only [RVs] at rxs
    obtain ⟨x, r, rfl, rx, rfl⟩ := rxs
    split at h
    · rename_i xs hd
      split at h
      · rename_i ns hn
        obtain ⟨a, vs, rfl, q2, q3⟩ := deref_ok rel rx hd
        have ev := intsOf_rv q2 hn
        subst ev
        refine ⟨a, ns, rfl, q3.lst, fun ms p m1 m2 hp => ?_⟩
        have em := srtL_of m1 m2
        subst em
        obtain ⟨g', z1, z2⟩ := new_ok (m := mu) rel hp (k := .lst) (o := .lst _) rfl (by decide) (RVs.mk_ints (srtL ns))
        have h := Option.some.inj h
        rw [h] at z1 z2
        exact k g' _ _ z1 z2
      · cases h
    · cases h
  · cases h
end
end Pv

/-! Pv35: blocks within blocks. -/
namespace Pv
open PySem PySem.Spec PyProof.Rows L2
/-- the block of a comprehension, as far as its parts ask -/
structure Bk (X : Cx) (N : List Str) (sc : Scope) : Prop where
  hN : X.N = N
  sc : X.env.scope = sc
  calm : X.calm = true
section
variable {X : Cx} {W : WX} {N : List Str} {sc : Scope} {k : Nat} {pos : Pos}
theorem Body.bk (b : Body X W N sc k) {s : Shared} {H : Hp} {scope : Scope} {C : Addr} {cl : List (Str × Addr)} {fp : List Addr} : Bk (X.blk s H scope (compEnvC scope cl C X.env) fp) N (relS scope sc) := ⟨b.hN, blk_sc b.sc, b.calm⟩
theorem Bk.bk (b : Bk X N sc) {s : Shared} {H : Hp} {scope : Scope} {C : Addr} {cl : List (Str × Addr)} {fp : List Addr} : Bk (X.blk s H scope (compEnvC scope cl C X.env) fp) N (relS scope sc) := ⟨b.hN, blk_sc b.sc, b.calm⟩
theorem Bk.v (b : Bk X N sc) (i : Nat) (x : Str) (h : slC N sc i x = true) : E X W (.Name x pos) (eV i) := E.vr b.hN b.sc i x h
theorem Bk.gl (b : Bk X N sc) (x : Str) (h : sc.names.lookup x = some .globalImplicit) : Gl X x := gl_of b.sc x h
theorem Bk.blk (b : Bk X N sc) {scope : Scope} {own : List (Str × Nat)} (h : blkC N sc scope own = true) : BlkOk X.N X.env.scope scope own := by
  have b1 := b.hN
  have b2 := b.sc
  subst b1 b2
  exact blkOk_by h
theorem sw_no {elt : Expr} {gs : List Comprehension} {scope : Scope} {cpos py : Pos} {y : Str} {l : Nat} (hs : X.env.scope = sc) (h : (!decide (sc.names.lookup y = some .local) || !(py.line == cpos.line)) = true) : swapsWith (.ListComp elt gs scope cpos) (some (.Name y py)) l X.env = pure false := by
  subst hs
  have ky : X.env.kindOf y = X.env.scope.names.lookup y := rfl
  unfold swapsWith
  simp only [ky, Expr.pos]
  cases hl : py.line == cpos.line with
  | false => simp
  | true =>
    rw [hl] at h
    have h : ¬ X.env.scope.names.lookup y = some .local := by simpa using h
    have e : (X.env.scope.names.lookup y == some .local) = false := by
      cases q : X.env.scope.names.lookup y with
      | none => rfl
      | some k => cases k <;> first | rfl | exact absurd q h
    rw [e]
    simp
theorem Body.setN (b : Body X W N sc k) (nd : N.Nodup) (i : Nat) (y : Str) (h : slT N sc i y = true) {elt : Expr} {gs : List Comprehension} {scope : Scope} {cpos py : Pos} {te : EF} (he : E X W (.ListComp elt gs scope cpos) te) (hn : (!decide (sc.names.lookup y = some .local) || !(py.line == cpos.line)) = true := by decide +kernel) :
    St X W (.Assign [.Name y py] (.ListComp elt gs scope cpos) pos) (sSet i te) := b.set nd i y h he (sw_no b.sc hn)
end
end Pv

namespace Law
open PySem PySem.Spec PyProof.Rows L2 Pv
def c_LETTERS : Str := "abcdefghijklmnopqrstuvwxyz"
def c_PLAIN : List Str := ["pop", "copy", "add", "sub", "div", "less", "not", "print", "skip", "end"]
def c_NAMED : List Str := ["load", "store", "fail"]
def c_JUMPS : List Str := ["jump", "jumpif"]
def c_LAST : List Str := ["fail", "jump", "end"]
def c_REMOVED : List (Str × Int) := [("store", 1), ("pop", 1), ("copy", 1), ("add", 2), ("sub", 2), ("div", 2), ("less", 2), ("not", 1), ("print", 1), ("jumpif", 1)]
def c_PUSHED : List (Str × Int) := [("const", 1), ("load", 1), ("copy", 2), ("add", 1), ("sub", 1), ("div", 1), ("less", 1), ("not", 1)]
def c_GREATEST : Int := 1000000000000000000000000000000
def c_LINES : Int := 1000000
def c_MOST : Int := 200
def body_in_range : SF := sRet (eAnd (eCall isiF (aCons (eV 0) (aCons (eC (.ty "int")) aNil))) (eAnd (eNot (eCall isiF (aCons (eV 0) (aCons (eC (.ty "bool")) aNil)))) (eChain leF leF (eV 1) (eV 0) (eV 2))))
def f_in_range : List PV → RP := runP 3 3 body_in_range

def l0_is_word : SF := sIf (bE (eOp ninF (eV 1) (eC (.str c_LETTERS)))) (sRet (eC (.bl false))) (sNext)
def r1_is_word : SF := sRet (eC (.bl true))
def r2_is_word : SF := sSeq (sFor (iAny (eV 0)) (gN 1) (l0_is_word)) (r1_is_word)
def body_is_word : SF := sSeq (sIf (bOr (bNot (bT (eCall isiF (aCons (eV 0) (aCons (eC (.ty "str")) aNil))))) (bNot (bE (eChain leF leF (eC (.int 1)) (eCall lenF (aCons (eV 0) aNil)) (eC (.int 8)))))) (sRet (eC (.bl false))) (sNext)) (r2_is_word)
def f_is_word : List PV → RP := runP 1 2 body_is_word

def r0_fits_form : SF := sRet (eAnd (eOp inF (eOp ixF (eV 0) (eC (.int 0))) (eC (.con .out .tup (c_JUMPS.map PV.str)))) (eAnd (eCall isiF (aCons (eOp ixF (eV 0) (eC (.int 1))) (aCons (eC (.ty "int")) aNil))) (eAnd (eNot (eCall isiF (aCons (eOp ixF (eV 0) (eC (.int 1))) (aCons (eC (.ty "bool")) aNil)))) (eOp geF (eOp ixF (eV 0) (eC (.int 1))) (eC (.int 0))))))
def r1_fits_form : SF := sSeq (sIf (bE (eOp inF (eOp ixF (eV 0) (eC (.int 0))) (eC (.con .out .tup (c_NAMED.map PV.str))))) (sRet (eCallP f_is_word (aCons (eOp ixF (eV 0) (eC (.int 1))) aNil))) (sNext)) (r0_fits_form)
def r2_fits_form : SF := sSeq (sIf (bE (eOp eqF (eOp ixF (eV 0) (eC (.int 0))) (eC (.str "const")))) (sRet (eCallP f_in_range (aCons (eOp ixF (eV 0) (eC (.int 1))) (aCons (eNeg (eC (.int c_GREATEST))) (aCons (eC (.int c_GREATEST)) aNil))))) (sNext)) (r1_fits_form)
def r3_fits_form : SF := sSeq (sIf (bE (eOp eqF (eCall lenF (aCons (eV 0) aNil)) (eC (.int 1)))) (sRet (eOp inF (eOp ixF (eV 0) (eC (.int 0))) (eC (.con .out .tup (c_PLAIN.map PV.str))))) (sNext)) (r2_fits_form)
def body_fits_form : SF := sSeq (sIf (bOr (bNot (bT (eCall isiF (aCons (eV 0) (aCons (eC (.ty "tuple")) aNil))))) (bOr (bNot (bE (eChain leF leF (eC (.int 1)) (eCall lenF (aCons (eV 0) aNil)) (eC (.int 2))))) (bNot (bT (eCall isiF (aCons (eOp ixF (eV 0) (eC (.int 0))) (aCons (eC (.ty "str")) aNil))))))) (sRet (eC (.bl false))) (sNext)) (r3_fits_form)
def f_fits_form : List PV → RP := runP 1 1 body_fits_form

def r0_is_handler : SF := sRet (eAnd (eCallP f_in_range (aCons (eV 4) (aCons (eC (.int 0)) (aCons (eOp subF (eV 1) (eC (.int 1))) aNil)))) (eAnd (eCallP f_in_range (aCons (eV 5) (aCons (eC (.int 0)) (aCons (eC (.int c_MOST)) aNil)))) (eOr (eU (fun p => .bl (isNP p)) (eV 6)) (eCallP f_is_word (aCons (eV 6) aNil)))))
def r1_is_handler : SF := sSeq (sAsg (eV 0) (gU [2, 3, 4, 5, 6])) (sSeq (sIf (bOr (bNot (bT (eCallP f_in_range (aCons (eV 2) (aCons (eC (.int 0)) (aCons (eOp subF (eV 1) (eC (.int 1))) aNil)))))) (bOr (bNot (bT (eCallP f_in_range (aCons (eV 3) (aCons (eC (.int 1)) (aCons (eV 1) aNil)))))) (bE (eOp geF (eV 2) (eV 3))))) (sRet (eC (.bl false))) (sNext)) (r0_is_handler))
def body_is_handler : SF := sSeq (sIf (bOr (bNot (bT (eCall isiF (aCons (eV 0) (aCons (eC (.ty "tuple")) aNil))))) (bE (eOp neF (eCall lenF (aCons (eV 0) aNil)) (eC (.int 5))))) (sRet (eC (.bl false))) (sNext)) (r1_is_handler)
def f_is_handler : List PV → RP := runP 2 7 body_is_handler

def r0_raised_kind : SF := sRet (eC .non)
def r1_raised_kind : SF := sSeq (sIf (bE (eOp eqF (eOp ixF (eV 0) (eC (.int 0))) (eC (.str "fail")))) (sRet (eOp ixF (eV 0) (eC (.int 1)))) (sNext)) (r0_raised_kind)
def r2_raised_kind : SF := sSeq (sIf (bE (eOp eqF (eOp ixF (eV 0) (eC (.int 0))) (eC (.str "div")))) (sRet (eC (.str "zero"))) (sNext)) (r1_raised_kind)
def body_raised_kind : SF := sSeq (sIf (bE (eOp eqF (eOp ixF (eV 0) (eC (.int 0))) (eC (.str "load")))) (sRet (eC (.str "unbound"))) (sNext)) (r2_raised_kind)
def f_raised_kind : List PV → RP := runP 1 1 body_raised_kind

def l0_receiver : SF := sIf (bAnd (bE (eChain leF ltF (eOp ixF (eV 3) (eC (.int 0))) (eV 1) (eOp ixF (eV 3) (eC (.int 1))))) (bOr (bE (eU (fun p => .bl (isNP p)) (eOp ixF (eV 3) (eC (.int 4))))) (bE (eOp eqF (eOp ixF (eV 3) (eC (.int 4))) (eV 2))))) (sRet (eV 3)) (sNext)
def r1_receiver : SF := sRet (eC .non)
def body_receiver : SF := sSeq (sFor (iAny (eV 0)) (gN 3) (l0_receiver)) (r1_receiver)
def f_receiver : List PV → RP := runP 3 4 body_receiver

def i0_moves : SF := sSeq (sSet 6 (eCallP f_receiver (aCons (eV 1) (aCons (eV 2) (aCons (eV 5) aNil))))) (sIf (bE (eU (fun p => .bl (!isNP p)) (eV 6))) (sExpr (eM "list" appendF (eV 3) (aCons (eTup (aCons (eOp ixF (eV 6) (eC (.int 2))) (aCons (eV 6) aNil))) aNil))) (sNext))
def r1_moves : SF := sRet (eV 3)
def r2_moves : SF := sSeq (sSet 5 (eCallP f_raised_kind (aCons (eOp ixF (eV 0) (eV 2)) aNil))) (sSeq (sIf (bE (eU (fun p => .bl (!isNP p)) (eV 5))) (i0_moves) (sNext)) (r1_moves))
def r3_moves : SF := sSeq (sIf (bE (eOp inF (eV 4) (eC (.con .out .tup (c_JUMPS.map PV.str))))) (sExpr (eM "list" appendF (eV 3) (aCons (eTup (aCons (eOp ixF (eOp ixF (eV 0) (eV 2)) (eC (.int 1))) (aCons (eC .non) aNil))) aNil))) (sNext)) (r2_moves)
def body_moves : SF := sSeq (sSet 3 (eLst true aNil)) (sSeq (sSet 4 (eOp ixF (eOp ixF (eV 0) (eV 2)) (eC (.int 0)))) (sSeq (sIf (bAnd (bE (eOp ninF (eV 4) (eC (.con .out .tup (c_LAST.map PV.str))))) (bE (eOp ltF (eOp (addF false) (eV 2) (eC (.int 1))) (eCall lenF (aCons (eV 0) aNil))))) (sExpr (eM "list" appendF (eV 3) (aCons (eTup (aCons (eOp (addF false) (eV 2) (eC (.int 1))) (aCons (eC .non) aNil))) aNil))) (sNext)) (r3_moves)))
def f_moves : List PV → RP := runP 3 7 body_moves

def l0_check_parts : SF := sIf (bNot (bT (eCallP f_fits_form (aCons (eV 4) aNil)))) (sRaise1 "BadInstruction" "index" (aCons (eV 3) aNil)) (sNext)
def l1_check_parts : SF := sIf (bAnd (bE (eOp inF (eOp ixF (eV 5) (eC (.int 0))) (eC (.con .out .tup (c_JUMPS.map PV.str))))) (bE (eOp geF (eOp ixF (eV 5) (eC (.int 1))) (eCall lenF (aCons (eV 0) aNil))))) (sRaise1 "BadTarget" "index" (aCons (eV 3) aNil)) (sNext)
def l2_check_parts : SF := sIf (bOr (bE (eOp geF (eV 3) (eCall lenF (aCons (eV 0) aNil)))) (bOr (bE (eOp geF (eV 3) (eCall lenF (aCons (eV 1) aNil)))) (bNot (bT (eCallP f_in_range (aCons (eOp ixF (eV 1) (eV 3)) (aCons (eC (.int 0)) (aCons (eC (.int c_LINES)) aNil)))))))) (sRaise1 "BadLine" "index" (aCons (eV 3) aNil)) (sNext)
def l3_check_parts : SF := sIf (bNot (bT (eCallP f_is_handler (aCons (eV 6) (aCons (eCall lenF (aCons (eV 0) aNil)) aNil))))) (sRaise1 "BadHandler" "index" (aCons (eV 3) aNil)) (sNext)
def r4_check_parts : SF := sIf (bE (eOp ninF (eOp ixF (eOp ixF (eV 0) (eNeg (eC (.int 1)))) (eC (.int 0))) (eC (.con .out .tup (c_LAST.map PV.str))))) (sRaise0 "FallsOff") (sNext)
def r5_check_parts : SF := sSeq (sFor (iE2 (eV 2)) (gU [3, 6]) (l3_check_parts)) (r4_check_parts)
def r6_check_parts : SF := sSeq (sFor (iR1 (aCons (eCall (ii2F fun i j => if j > i then j else i) (aCons (eCall lenF (aCons (eV 0) aNil)) (aCons (eCall lenF (aCons (eV 1) aNil)) aNil))) aNil)) (gN 3) (l2_check_parts)) (r5_check_parts)
def r7_check_parts : SF := sSeq (sFor (iE2 (eV 0)) (gU [3, 5]) (l1_check_parts)) (r6_check_parts)
def r8_check_parts : SF := sSeq (sFor (iE2 (eV 0)) (gU [3, 4]) (l0_check_parts)) (r7_check_parts)
def body_check_parts : SF := sSeq (sIf (bNot (bE (eChain leF leF (eC (.int 1)) (eCall lenF (aCons (eV 0) aNil)) (eC (.int c_MOST))))) (sRaise0 "BadCode") (sNext)) (r8_check_parts)
def f_check_parts : List PV → RP := runP 3 7 body_check_parts

def i0_depths_of : SF := sSeq (sSet 10 (eOp ixF (eV 9) (eC (.int 3)))) (sIf (bE (eOp ltF (eV 5) (eV 10))) (sRaise0 "BadDepth") (sNext))
def i1_depths_of : SF := sSeq (sAsg (eV 10) (gSubF setLF (eV 2) (eV 8))) (sExpr (eM "list" appendF (eV 3) (aCons (eV 8) aNil)))
def r2_depths_of : SF := sIf (bE (eU (fun p => .bl (isNP p)) (eOp ixF (eV 2) (eV 8)))) (i1_depths_of) (sIf (bE (eOp neF (eOp ixF (eV 2) (eV 8)) (eV 10))) (sRaise0 "BadDepth") (sNext))
def l3_depths_of : SF := sSeq (sSet 10 (eV 7)) (sSeq (sIf (bE (eU (fun p => .bl (!isNP p)) (eV 9))) (i0_depths_of) (sNext)) (r2_depths_of))
def r4_depths_of : SF := sSeq (sSet 7 (eOp (addF false) (eOp subF (eV 5) (eOp (mgetF c_REMOVED) (eV 6) (eC (.int 0)))) (eOp (mgetF c_PUSHED) (eV 6) (eC (.int 0))))) (sFor (iAny (eCallP f_moves (aCons (eV 0) (aCons (eV 1) (aCons (eV 4) aNil))))) (gU [8, 9]) (l3_depths_of))
def l5_depths_of : SF := sSeq (sSet 4 (eM "list" popF (eV 3) aNil)) (sSeq (sSet 5 (eOp ixF (eV 2) (eV 4))) (sSeq (sSet 6 (eOp ixF (eOp ixF (eV 0) (eV 4)) (eC (.int 0)))) (sSeq (sIf (bE (eOp ltF (eV 5) (eOp (mgetF c_REMOVED) (eV 6) (eC (.int 0))))) (sRaise0 "BadDepth") (sNext)) (r4_depths_of))))
def r6_depths_of : SF := sRet (eCall tupleF (aCons (eV 2) aNil))
def body_depths_of : SF := sSeq (sSet 2 (eOp (mulF true) (eLst false (aCons (eC .non) aNil)) (eCall lenF (aCons (eV 0) aNil)))) (sSeq (sAsg (eC (.int 0)) (gSubF setLF (eV 2) (eC (.int 0)))) (sSeq (sSet 3 (eLst true (aCons (eC (.int 0)) aNil))) (sSeq (sWhl (bT (eV 3)) (l5_depths_of)) (r6_depths_of))))
def f_depths_of : List PV → RP := runP 2 11 body_depths_of

def body_Unit_init : SF := sSeq (sExpr (eCallP f_check_parts (aCons (eV 1) (aCons (eV 2) (aCons (eV 3) aNil))))) (sSeq (sFldF ["Unit"] "code" (eV 0) (eCall tupleF (aCons (eV 1) aNil))) (sSeq (sFldF ["Unit"] "lines" (eV 0) (eCall tupleF (aCons (eV 2) aNil))) (sSeq (sFldF ["Unit"] "handlers" (eV 0) (eCall tupleF (aCons (eV 3) aNil))) (sFldF ["Unit"] "found_depths" (eV 0) (eCallP f_depths_of (aCons (eFld ["Unit"] "code" (eV 0)) (aCons (eFld ["Unit"] "handlers" (eV 0)) aNil)))))))
def i_Unit_init : List PV → RP := runI "Unit" 4 4 body_Unit_init

def body_law_begin : SF := sRet (eLst true (aCons (eCall (listF false) (aCons (eV 0) aNil)) (aCons (eC (.int 0)) (aCons (eC (.int 0)) (aCons (eC (.int 7)) aNil)))))
def f_law_begin : List PV → Sto → R PV := runW 1 1 body_law_begin

def i0_law_draw : SF := sSeq (sSet 3 (eOp ixF (eOp ixF (eV 0) (eC (.int 0))) (eOp ixF (eV 0) (eC (.int 1))))) (sSeq (sAsg (eOp (addF false) (eOp ixF (eV 0) (eC (.int 1))) (eC (.int 1))) (gSubF setLF (eV 0) (eC (.int 1)))) (sIf (bE (eOp geF (eV 3) (eOp powF (eC (.int 10)) (eC (.int 18))))) (sAsg (eV 3) (gSubF setLF (eV 0) (eC (.int 2)))) (sAsg (eOp modF (eCall int1F (aCons (eOp (addF false) (eOp (addF false) (eOp (mulF false) (eOp ixF (eV 0) (eC (.int 3))) (eC (.int 48271))) (eOp (mulF false) (eV 3) (eC (.int 69621)))) (eC (.int 11))) aNil)) (eC (.int 2147483647))) (gSubF setLF (eV 0) (eC (.int 3))))))
def i1_law_draw : SF := sSeq (sSet 2 (eOp modF (eCall int1F (aCons (eOp ixF (eV 0) (eC (.int 2))) aNil)) (eV 1))) (sSeq (sAsg (eOp fdivF (eOp ixF (eV 0) (eC (.int 2))) (eV 1)) (gSubF setLF (eV 0) (eC (.int 2)))) (sRet (eV 2)))
def r2_law_draw : SF := sRet (eOp modF (eOp modF (eCall int1F (aCons (eOp (mulF false) (eOp ixF (eV 0) (eC (.int 3))) (eC (.int 16807))) aNil)) (eC (.int 2147483629))) (eV 1))
def r3_law_draw : SF := sSeq (sIf (bE (eOp gtF (eOp ixF (eV 0) (eC (.int 2))) (eC (.int 0)))) (i1_law_draw) (sNext)) (r2_law_draw)
def body_law_draw : SF := sSeq (sIf (bE (eOp eqF (eOp ixF (eV 0) (eC (.int 2))) (eC (.int 0)))) (sIf (bE (eOp ltF (eOp ixF (eV 0) (eC (.int 1))) (eCall lenF (aCons (eOp ixF (eV 0) (eC (.int 0))) aNil)))) (i0_law_draw) (sAsg (eOp modF (eCall int1F (aCons (eOp (addF false) (eOp (mulF false) (eOp ixF (eV 0) (eC (.int 3))) (eC (.int 48271))) (eC (.int 7))) aNil)) (eC (.int 2147483647))) (gSubF setLF (eV 0) (eC (.int 3))))) (sNext)) (r3_law_draw)
def f_law_draw : List PV → Sto → R PV := runW 2 4 body_law_draw

def r0_law_number : SF := sRet (eOp subF (eCallW f_law_draw (aCons (eV 0) (aCons (eC (.int 7)) aNil))) (eC (.int 2)))
def r1_law_number : SF := sSeq (sIf (bE (eOp eqF (eV 1) (eC (.int 1)))) (sRet (eOp subF (eCallW f_law_draw (aCons (eV 0) (aCons (eOp powF (eC (.int 10)) (eC (.int 9))) aNil))) (eOp (mulF false) (eC (.int 5)) (eOp powF (eC (.int 10)) (eC (.int 8)))))) (sNext)) (r0_law_number)
def body_law_number : SF := sSeq (sSet 1 (eCallW f_law_draw (aCons (eV 0) (aCons (eC (.int 6)) aNil)))) (sSeq (sIf (bE (eOp eqF (eV 1) (eC (.int 0)))) (sRet (eOp ixF (eLst false (aCons (eC (.int 0)) (aCons (eC (.int 1)) (aCons (eNeg (eC (.int 1))) (aCons (eOp powF (eC (.int 10)) (eC (.int 30))) (aCons (eNeg (eOp powF (eC (.int 10)) (eC (.int 30)))) (aCons (eOp subF (eOp powF (eC (.int 10)) (eC (.int 30))) (eC (.int 1))) aNil))))))) (eCallW f_law_draw (aCons (eV 0) (aCons (eC (.int 6)) aNil))))) (sNext)) (r1_law_number))
def f_law_number : List PV → Sto → R PV := runW 1 2 body_law_number

def body_law_line : SF := sRet (eOp ixF (eLst false (aCons (eC (.int 0)) (aCons (eC (.int 1)) (aCons (eC (.int 1)) (aCons (eC (.int 2)) (aCons (eC (.int 3)) (aCons (eC (.int 7)) (aCons (eOp powF (eC (.int 10)) (eC (.int 6))) aNil)))))))) (eCallW f_law_draw (aCons (eV 0) (aCons (eC (.int 7)) aNil))))
def f_law_line : List PV → Sto → R PV := runW 1 1 body_law_line

def e0_law_value : SF := sSeq (sExpr (eM "list" appendF (eV 1) (aCons (eLst false (aCons (eTup (aCons (eC (.str "const")) (aCons (eCallW f_law_number (aCons (eV 0) aNil)) aNil))) (aCons (eV 2) aNil))) aNil))) (sSeq (sExpr (eM "list" appendF (eV 1) (aCons (eLst false (aCons (eTup (aCons (eC (.str "const")) (aCons (eCallW f_law_draw (aCons (eV 0) (aCons (eC (.int 4)) aNil))) aNil))) (aCons (eOp ixF (eLst false (aCons (eV 2) (aCons (eV 2) (aCons (eC (.int 0)) aNil)))) (eCallW f_law_draw (aCons (eV 0) (aCons (eC (.int 3)) aNil)))) aNil))) aNil))) (sSeq (sSet 4 (eOp ixF (eLst false (aCons (eC (.str "add")) (aCons (eC (.str "sub")) (aCons (eC (.str "less")) (aCons (eC (.str "div")) aNil))))) (eCallW f_law_draw (aCons (eV 0) (aCons (eC (.int 4)) aNil))))) (sExpr (eM "list" appendF (eV 1) (aCons (eLst false (aCons (eTup (aCons (eV 4) aNil)) (aCons (eOp ixF (eLst false (aCons (eV 2) (aCons (eV 2) (aCons (eC (.int 0)) (aCons (eC (.int 2)) aNil))))) (eCallW f_law_draw (aCons (eV 0) (aCons (eC (.int 4)) aNil)))) aNil))) aNil)))))
def i1_law_value : SF := sSeq (sExpr (eM "list" appendF (eV 1) (aCons (eLst false (aCons (eTup (aCons (eC (.str "load")) (aCons (eOp ixF (eLst false (aCons (eC (.str "a")) (aCons (eC (.str "b")) (aCons (eC (.str "c")) aNil)))) (eCallW f_law_draw (aCons (eV 0) (aCons (eC (.int 3)) aNil)))) aNil))) (aCons (eV 2) aNil))) aNil))) (sExpr (eM "list" appendF (eV 1) (aCons (eLst false (aCons (eTup (aCons (eOp ixF (eLst false (aCons (eC (.str "add")) (aCons (eC (.str "sub")) (aCons (eC (.str "less")) (aCons (eC (.str "div")) aNil))))) (eCallW f_law_draw (aCons (eV 0) (aCons (eC (.int 4)) aNil)))) aNil)) (aCons (eV 2) aNil))) aNil)))
def r2_law_value : SF := sIf (bE (eOp eqF (eCallW f_law_draw (aCons (eV 0) (aCons (eC (.int 6)) aNil))) (eC (.int 0)))) (sExpr (eM "list" appendF (eV 1) (aCons (eLst false (aCons (eTup (aCons (eC (.str "not")) aNil)) (aCons (eV 2) aNil))) aNil))) (sNext)
def r3_law_value : SF := sSeq (sIf (bE (eOp eqF (eCallW f_law_draw (aCons (eV 0) (aCons (eC (.int 4)) aNil))) (eC (.int 0)))) (i1_law_value) (sNext)) (r2_law_value)
def body_law_value : SF := sSeq (sSet 3 (eCallW f_law_draw (aCons (eV 0) (aCons (eC (.int 8)) aNil)))) (sSeq (sIf (bE (eOp leF (eV 3) (eC (.int 3)))) (sExpr (eM "list" appendF (eV 1) (aCons (eLst false (aCons (eTup (aCons (eC (.str "const")) (aCons (eCallW f_law_number (aCons (eV 0) aNil)) aNil))) (aCons (eV 2) aNil))) aNil))) (sIf (bE (eOp leF (eV 3) (eC (.int 5)))) (sExpr (eM "list" appendF (eV 1) (aCons (eLst false (aCons (eTup (aCons (eC (.str "load")) (aCons (eOp ixF (eLst false (aCons (eC (.str "a")) (aCons (eC (.str "b")) (aCons (eC (.str "c")) aNil)))) (eCallW f_law_draw (aCons (eV 0) (aCons (eC (.int 3)) aNil)))) aNil))) (aCons (eV 2) aNil))) aNil))) (e0_law_value))) (r3_law_value))
def f_law_value : List PV → Sto → R PV := runW 3 5 body_law_value

def i0_law_plain : SF := sSeq (sExpr (eCallW f_law_value (aCons (eV 0) (aCons (eV 1) (aCons (eV 2) aNil))))) (sExpr (eM "list" appendF (eV 1) (aCons (eLst false (aCons (eTup (aCons (eC (.str "print")) aNil)) (aCons (eV 2) aNil))) aNil)))
def i1_law_plain : SF := sSeq (sExpr (eCallW f_law_value (aCons (eV 0) (aCons (eV 1) (aCons (eV 2) aNil))))) (sExpr (eM "list" appendF (eV 1) (aCons (eLst false (aCons (eTup (aCons (eC (.str "store")) (aCons (eOp ixF (eLst false (aCons (eC (.str "a")) (aCons (eC (.str "b")) (aCons (eC (.str "c")) aNil)))) (eCallW f_law_draw (aCons (eV 0) (aCons (eC (.int 3)) aNil)))) aNil))) (aCons (eV 2) aNil))) aNil)))
def i2_law_plain : SF := sSeq (sExpr (eCallW f_law_value (aCons (eV 0) (aCons (eV 1) (aCons (eV 2) aNil))))) (sExpr (eM "list" appendF (eV 1) (aCons (eLst false (aCons (eTup (aCons (eC (.str "pop")) aNil)) (aCons (eOp ixF (eLst false (aCons (eV 2) (aCons (eC (.int 0)) aNil))) (eCallW f_law_draw (aCons (eV 0) (aCons (eC (.int 2)) aNil)))) aNil))) aNil)))
def i3_law_plain : SF := sSeq (sExpr (eCallW f_law_value (aCons (eV 0) (aCons (eV 1) (aCons (eV 2) aNil))))) (sSeq (sExpr (eM "list" appendF (eV 1) (aCons (eLst false (aCons (eTup (aCons (eC (.str "copy")) aNil)) (aCons (eV 2) aNil))) aNil))) (sSeq (sExpr (eM "list" appendF (eV 1) (aCons (eLst false (aCons (eTup (aCons (eC (.str "pop")) aNil)) (aCons (eV 2) aNil))) aNil))) (sExpr (eM "list" appendF (eV 1) (aCons (eLst false (aCons (eTup (aCons (eC (.str "print")) aNil)) (aCons (eV 2) aNil))) aNil)))))
def i4_law_plain : SF := sSeq (sExpr (eM "list" appendF (eV 1) (aCons (eLst false (aCons (eTup (aCons (eC (.str "skip")) aNil)) (aCons (eV 2) aNil))) aNil))) (sExpr (eM "list" appendF (eV 1) (aCons (eLst false (aCons (eTup (aCons (eC (.str "skip")) aNil)) (aCons (eOp ixF (eLst false (aCons (eC (.int 0)) (aCons (eV 2) aNil))) (eCallW f_law_draw (aCons (eV 0) (aCons (eC (.int 2)) aNil)))) aNil))) aNil)))
def body_law_plain : SF := sSeq (sSet 2 (eCallW f_law_line (aCons (eV 0) aNil))) (sSeq (sSet 3 (eCallW f_law_draw (aCons (eV 0) (aCons (eC (.int 9)) aNil)))) (sIf (bE (eOp leF (eV 3) (eC (.int 1)))) (i0_law_plain) (sIf (bE (eOp eqF (eV 3) (eC (.int 2)))) (i1_law_plain) (sIf (bE (eOp eqF (eV 3) (eC (.int 3)))) (sExpr (eM "list" appendF (eV 1) (aCons (eLst false (aCons (eTup (aCons (eC (.str "skip")) aNil)) (aCons (eV 2) aNil))) aNil))) (sIf (bE (eOp eqF (eV 3) (eC (.int 4)))) (i2_law_plain) (sIf (bE (eOp eqF (eV 3) (eC (.int 5)))) (i3_law_plain) (sIf (bE (eOp eqF (eV 3) (eC (.int 6)))) (i4_law_plain) (sIf (bAnd (bE (eOp eqF (eV 3) (eC (.int 7)))) (bE (eOp eqF (eCallW f_law_draw (aCons (eV 0) (aCons (eC (.int 3)) aNil))) (eC (.int 0))))) (sExpr (eM "list" appendF (eV 1) (aCons (eLst false (aCons (eTup (aCons (eC (.str "fail")) (aCons (eOp ixF (eLst false (aCons (eC (.str "oops")) (aCons (eC (.str "zero")) (aCons (eC (.str "unbound")) aNil)))) (eCallW f_law_draw (aCons (eV 0) (aCons (eC (.int 3)) aNil)))) aNil))) (aCons (eV 2) aNil))) aNil))) (sExpr (eM "list" appendF (eV 1) (aCons (eLst false (aCons (eTup (aCons (eC (.str "jump")) (aCons (eOp (addF false) (eCall lenF (aCons (eV 1) aNil)) (eC (.int 1))) aNil))) (aCons (eOp ixF (eLst false (aCons (eC (.int 0)) (aCons (eV 2) aNil))) (eCallW f_law_draw (aCons (eV 0) (aCons (eC (.int 2)) aNil)))) aNil))) aNil)))))))))))
def f_law_plain : List PV → Sto → R PV := runW 2 4 body_law_plain

def body_law_choice (self_law_body : List PV → Sto → R PV) : SF := sSeq (sSet 5 (eCallW f_law_line (aCons (eV 0) aNil))) (sSeq (sExpr (eCallW f_law_value (aCons (eV 0) (aCons (eV 1) (aCons (eV 5) aNil))))) (sSeq (sExpr (eM "list" appendF (eV 1) (aCons (eLst true (aCons (eTup (aCons (eC (.str "jumpif")) (aCons (eC (.int 0)) aNil))) (aCons (eV 5) aNil))) aNil))) (sSeq (sSet 6 (eOp subF (eCall lenF (aCons (eV 1) aNil)) (eC (.int 1)))) (sSeq (sExpr (eCallW self_law_body (aCons (eV 0) (aCons (eV 1) (aCons (eV 2) (aCons (eV 3) (aCons (eV 4) aNil))))))) (sSeq (sExpr (eM "list" appendF (eV 1) (aCons (eLst true (aCons (eTup (aCons (eC (.str "jump")) (aCons (eC (.int 0)) aNil))) (aCons (eOp ixF (eLst false (aCons (eC (.int 0)) (aCons (eV 5) aNil))) (eCallW f_law_draw (aCons (eV 0) (aCons (eC (.int 2)) aNil)))) aNil))) aNil))) (sSeq (sSet 7 (eOp subF (eCall lenF (aCons (eV 1) aNil)) (eC (.int 1)))) (sSeq (sAsg (eTup (aCons (eC (.str "jumpif")) (aCons (eCall lenF (aCons (eV 1) aNil)) aNil))) (gSubF setLF (eOp ixF (eV 1) (eV 6)) (eC (.int 0)))) (sSeq (sExpr (eCallW self_law_body (aCons (eV 0) (aCons (eV 1) (aCons (eV 2) (aCons (eV 3) (aCons (eV 4) aNil))))))) (sAsg (eTup (aCons (eC (.str "jump")) (aCons (eCall lenF (aCons (eV 1) aNil)) aNil))) (gSubF setLF (eOp ixF (eV 1) (eV 7)) (eC (.int 0))))))))))))

def e0_law_loop (self_law_body : List PV → Sto → R PV) : SF := sSeq (sExpr (eM "list" appendF (eV 1) (aCons (eLst false (aCons (eTup (aCons (eC (.str "load")) (aCons (eC (.str "a")) aNil))) (aCons (eV 5) aNil))) aNil))) (sSeq (sExpr (eM "list" appendF (eV 1) (aCons (eLst false (aCons (eTup (aCons (eC (.str "const")) (aCons (eC (.int 1)) aNil))) (aCons (eV 5) aNil))) aNil))) (sSeq (sExpr (eM "list" appendF (eV 1) (aCons (eLst false (aCons (eTup (aCons (eC (.str "sub")) aNil)) (aCons (eV 5) aNil))) aNil))) (sSeq (sExpr (eM "list" appendF (eV 1) (aCons (eLst false (aCons (eTup (aCons (eC (.str "copy")) aNil)) (aCons (eV 5) aNil))) aNil))) (sSeq (sExpr (eM "list" appendF (eV 1) (aCons (eLst false (aCons (eTup (aCons (eC (.str "store")) (aCons (eC (.str "a")) aNil))) (aCons (eV 5) aNil))) aNil))) (sSeq (sExpr (eM "list" appendF (eV 1) (aCons (eLst false (aCons (eTup (aCons (eC (.str "const")) (aCons (eC (.int 0)) aNil))) (aCons (eV 5) aNil))) aNil))) (sSeq (sExpr (eM "list" appendF (eV 1) (aCons (eLst false (aCons (eTup (aCons (eC (.str "less")) aNil)) (aCons (eV 5) aNil))) aNil))) (sSeq (sExpr (eM "list" appendF (eV 1) (aCons (eLst false (aCons (eTup (aCons (eC (.str "not")) aNil)) (aCons (eV 5) aNil))) aNil))) (sExpr (eM "list" appendF (eV 1) (aCons (eLst false (aCons (eTup (aCons (eC (.str "jumpif")) (aCons (eV 6) aNil))) (aCons (eV 5) aNil))) aNil))))))))))
def body_law_loop (self_law_body : List PV → Sto → R PV) : SF := sSeq (sSet 5 (eCallW f_law_line (aCons (eV 0) aNil))) (sSeq (sSet 6 (eCall lenF (aCons (eV 1) aNil))) (sSeq (sExpr (eCallW self_law_body (aCons (eV 0) (aCons (eV 1) (aCons (eV 2) (aCons (eV 3) (aCons (eV 4) aNil))))))) (sSeq (sSet 7 (eCallW f_law_draw (aCons (eV 0) (aCons (eC (.int 4)) aNil)))) (sIf (bE (eOp eqF (eV 7) (eC (.int 0)))) (sExpr (eM "list" appendF (eV 1) (aCons (eLst false (aCons (eTup (aCons (eC (.str "jump")) (aCons (eV 6) aNil))) (aCons (eOp ixF (eLst false (aCons (eC (.int 0)) (aCons (eV 5) aNil))) (eCallW f_law_draw (aCons (eV 0) (aCons (eC (.int 2)) aNil)))) aNil))) aNil))) ((e0_law_loop self_law_body))))))

def body_law_guard (self_law_body : List PV → Sto → R PV) : SF := sSeq (sSet 5 (eCall lenF (aCons (eV 1) aNil))) (sSeq (sExpr (eCallW self_law_body (aCons (eV 0) (aCons (eV 1) (aCons (eV 2) (aCons (eV 3) (aCons (eV 4) aNil))))))) (sSeq (sSet 6 (eCall lenF (aCons (eV 1) aNil))) (sSeq (sExpr (eM "list" appendF (eV 1) (aCons (eLst true (aCons (eTup (aCons (eC (.str "jump")) (aCons (eC (.int 0)) aNil))) (aCons (eCallW f_law_line (aCons (eV 0) aNil)) aNil))) aNil))) (sSeq (sSet 7 (eCall lenF (aCons (eV 2) aNil))) (sSeq (sSet 8 (eOp ixF (eLst false (aCons (eC .non) (aCons (eC (.str "zero")) (aCons (eC (.str "unbound")) (aCons (eC (.str "oops")) aNil))))) (eCallW f_law_draw (aCons (eV 0) (aCons (eC (.int 4)) aNil))))) (sSeq (sSet 9 (eCall lenF (aCons (eV 1) aNil))) (sSeq (sExpr (eCallW f_law_plain (aCons (eV 0) (aCons (eV 1) aNil)))) (sSeq (sAsg (eTup (aCons (eC (.str "jump")) (aCons (eCall lenF (aCons (eV 1) aNil)) aNil))) (gSubF setLF (eOp ixF (eV 1) (eV 6)) (eC (.int 0)))) (sIf (bE (eOp gtF (eV 6) (eV 5))) (sExpr (eM "list" insertF (eV 2) (aCons (eV 7) (aCons (eTup (aCons (eV 5) (aCons (eV 6) (aCons (eV 9) (aCons (eV 4) (aCons (eV 8) aNil)))))) aNil)))) (sNext))))))))))

def i0_law_body (self_law_choice : List PV → Sto → R PV) (self_law_loop : List PV → Sto → R PV) (self_law_body : List PV → Sto → R PV) (self_law_guard : List PV → Sto → R PV) : SF := sSeq (sExpr (eM "list" appendF (eV 1) (aCons (eLst false (aCons (eTup (aCons (eC (.str "const")) (aCons (eCallW f_law_number (aCons (eV 0) aNil)) aNil))) (aCons (eCallW f_law_line (aCons (eV 0) aNil)) aNil))) aNil))) (sSeq (sExpr (eCallW self_law_body (aCons (eV 0) (aCons (eV 1) (aCons (eV 2) (aCons (eOp subF (eV 3) (eC (.int 1))) (aCons (eOp (addF false) (eV 4) (eC (.int 1))) aNil))))))) (sExpr (eM "list" appendF (eV 1) (aCons (eLst false (aCons (eOp ixF (eLst false (aCons (eTup (aCons (eC (.str "pop")) aNil)) (aCons (eTup (aCons (eC (.str "print")) aNil)) aNil))) (eCallW f_law_draw (aCons (eV 0) (aCons (eC (.int 2)) aNil)))) (aCons (eCallW f_law_line (aCons (eV 0) aNil)) aNil))) aNil))))
def l1_law_body (self_law_choice : List PV → Sto → R PV) (self_law_loop : List PV → Sto → R PV) (self_law_body : List PV → Sto → R PV) (self_law_guard : List PV → Sto → R PV) : SF := sSeq (sSet 6 (eCallW f_law_draw (aCons (eV 0) (aCons (eC (.int 8)) aNil)))) (sIf (bOr (bE (eOp gtF (eCall lenF (aCons (eV 1) aNil)) (eC (.int 50)))) (bOr (bE (eOp eqF (eV 3) (eC (.int 0)))) (bE (eOp leF (eV 6) (eC (.int 3)))))) (sExpr (eCallW f_law_plain (aCons (eV 0) (aCons (eV 1) aNil)))) (sIf (bE (eOp eqF (eV 6) (eC (.int 4)))) (sExpr (eCallW self_law_choice (aCons (eV 0) (aCons (eV 1) (aCons (eV 2) (aCons (eOp subF (eV 3) (eC (.int 1))) (aCons (eV 4) aNil))))))) (sIf (bE (eOp eqF (eV 6) (eC (.int 5)))) (sExpr (eCallW self_law_loop (aCons (eV 0) (aCons (eV 1) (aCons (eV 2) (aCons (eOp subF (eV 3) (eC (.int 1))) (aCons (eV 4) aNil))))))) (sIf (bE (eOp eqF (eV 6) (eC (.int 6)))) ((i0_law_body self_law_choice self_law_loop self_law_body self_law_guard)) (sExpr (eCallW self_law_guard (aCons (eV 0) (aCons (eV 1) (aCons (eV 2) (aCons (eOp subF (eV 3) (eC (.int 1))) (aCons (eV 4) aNil)))))))))))
def body_law_body (self_law_choice : List PV → Sto → R PV) (self_law_loop : List PV → Sto → R PV) (self_law_body : List PV → Sto → R PV) (self_law_guard : List PV → Sto → R PV) : SF := sFor (iR1 (aCons (eCallW f_law_draw (aCons (eV 0) (aCons (eC (.int 3)) aNil))) aNil)) (gN 5) ((l1_law_body self_law_choice self_law_loop self_law_body self_law_guard))
def fam_law_body : Nat → (List PV → Sto → R PV) × (List PV → Sto → R PV) × (List PV → Sto → R PV) × (List PV → Sto → R PV)
  | 0 => (fun _ _ => .bad, fun _ _ => .bad, fun _ _ => .bad, fun _ _ => .bad)
  | n + 1 => (runW 5 8 (body_law_choice (fam_law_body n).2.2.2), runW 5 8 (body_law_loop (fam_law_body n).2.2.2), runW 5 10 (body_law_guard (fam_law_body n).2.2.2), runW 5 7 (body_law_body (fam_law_body n).1 (fam_law_body n).2.1 (fam_law_body n).2.2.2 (fam_law_body n).2.2.1))
def f_law_choice (n : Nat) : List PV → Sto → R PV := (fam_law_body n).1
def f_law_loop (n : Nat) : List PV → Sto → R PV := (fam_law_body n).2.1
def f_law_guard (n : Nat) : List PV → Sto → R PV := (fam_law_body n).2.2.1
def f_law_body (n : Nat) : List PV → Sto → R PV := (fam_law_body n).2.2.2
theorem f_law_choice_0 {a : List PV} {S : Sto} : f_law_choice 0 a S = .bad := (rfl)
theorem f_law_choice_s {n : Nat} : f_law_choice (n + 1) = runW 5 8 (body_law_choice (f_law_body n)) := (rfl)
theorem f_law_loop_0 {a : List PV} {S : Sto} : f_law_loop 0 a S = .bad := (rfl)
theorem f_law_loop_s {n : Nat} : f_law_loop (n + 1) = runW 5 8 (body_law_loop (f_law_body n)) := (rfl)
theorem f_law_guard_0 {a : List PV} {S : Sto} : f_law_guard 0 a S = .bad := (rfl)
theorem f_law_guard_s {n : Nat} : f_law_guard (n + 1) = runW 5 10 (body_law_guard (f_law_body n)) := (rfl)
theorem f_law_body_0 {a : List PV} {S : Sto} : f_law_body 0 a S = .bad := (rfl)
theorem f_law_body_s {n : Nat} : f_law_body (n + 1) = runW 5 7 (body_law_body (f_law_choice n) (f_law_loop n) (f_law_body n) (f_law_guard n)) := (rfl)

def l0_law_parts : SF := sExpr (eCallW (f_law_body 10) (aCons (eV 0) (aCons (eV 1) (aCons (eV 2) (aCons (eC (.int 3)) (aCons (eC (.int 0)) aNil))))))
def i1_law_parts : SF := sSeq (sExpr (eM "list" appendF (eV 1) (aCons (eLst false (aCons (eTup (aCons (eC (.str "const")) (aCons (eC (.int 5)) aNil))) (aCons (eC (.int 2)) aNil))) aNil))) (sSeq (sExpr (eM "list" appendF (eV 1) (aCons (eLst false (aCons (eTup (aCons (eC (.str "print")) aNil)) (aCons (eC (.int 3)) aNil))) aNil))) (sExpr (eM "list" appendF (eV 1) (aCons (eLst false (aCons (eTup (aCons (eC (.str "jump")) (aCons (eC (.int 0)) aNil))) (aCons (eC (.int 0)) aNil))) aNil))))
def r2_law_parts : SF := sSeq (sSet 4 (eLc true (iAny (eV 1)) (gN 6) (bYes) (eOp ixF (eV 6) (eC (.int 0))) [6])) (sSeq (sSet 5 (eLc true (iAny (eV 1)) (gN 6) (bYes) (eOp ixF (eV 6) (eC (.int 1))) [6])) (sRet (eLst true (aCons (eV 4) (aCons (eV 5) (aCons (eV 2) aNil))))))
def r3_law_parts : SF := sSeq (sExpr (eM "list" appendF (eV 1) (aCons (eLst false (aCons (eTup (aCons (eC (.str "end")) aNil)) (aCons (eCallW f_law_line (aCons (eV 0) aNil)) aNil))) aNil))) (sSeq (sIf (bE (eOp eqF (eCallW f_law_draw (aCons (eV 0) (aCons (eC (.int 4)) aNil))) (eC (.int 0)))) (i1_law_parts) (sNext)) (r2_law_parts))
def body_law_parts : SF := sSeq (sSet 1 (eLst true aNil)) (sSeq (sSet 2 (eLst true aNil)) (sSeq (sFor (iR1 (aCons (eOp (addF false) (eC (.int 1)) (eCallW f_law_draw (aCons (eV 0) (aCons (eC (.int 3)) aNil)))) aNil)) (gN 3) (l0_law_parts)) (r3_law_parts)))
def f_law_parts : List PV → Sto → R PV := runW 1 7 body_law_parts
end Law

namespace Law
open PySem PySem.Spec PyProof.Rows L2 Pv
def l0_law_like (self_law_like : List PV → RP) : SF := sIf (bNot (bT (eCallP self_law_like (aCons (eOp ixF (eV 0) (eV 2)) (aCons (eOp ixF (eV 1) (eV 2)) aNil))))) (sRet (eC (.bl false))) (sNext)
def r1_law_like (self_law_like : List PV → RP) : SF := sRet (eC (.bl true))
def r2_law_like (self_law_like : List PV → RP) : SF := sSeq (sFor (iR1 (aCons (eCall lenF (aCons (eV 1) aNil)) aNil)) (gN 2) ((l0_law_like self_law_like))) ((r1_law_like self_law_like))
def r3_law_like (self_law_like : List PV → RP) : SF := sSeq (sIf (bT (eCall isiF (aCons (eV 1) (aCons (eC (.ty "tuple")) aNil)))) (sIf (bOr (bNot (bT (eCall isiF (aCons (eV 0) (aCons (eC (.ty "tuple")) aNil))))) (bE (eOp neF (eCall lenF (aCons (eV 0) aNil)) (eCall lenF (aCons (eV 1) aNil))))) (sRet (eC (.bl false))) (sNext)) (sIf (bOr (bNot (bT (eCall isiF (aCons (eV 0) (aCons (eC (.ty "list")) aNil))))) (bE (eOp neF (eCall lenF (aCons (eV 0) aNil)) (eCall lenF (aCons (eV 1) aNil))))) (sRet (eC (.bl false))) (sNext))) ((r2_law_like self_law_like))
def r4_law_like (self_law_like : List PV → RP) : SF := sSeq (sIf (bT (eCall isiF (aCons (eV 1) (aCons (eC (.ty "str")) aNil)))) (sRet (eAnd (eCall isiF (aCons (eV 0) (aCons (eC (.ty "str")) aNil))) (eOp eqF (eV 0) (eV 1)))) (sNext)) ((r3_law_like self_law_like))
def r5_law_like (self_law_like : List PV → RP) : SF := sSeq (sIf (bT (eCall isiF (aCons (eV 1) (aCons (eC (.ty "int")) aNil)))) (sRet (eAnd (eCall isiF (aCons (eV 0) (aCons (eC (.ty "int")) aNil))) (eAnd (eNot (eCall isiF (aCons (eV 0) (aCons (eC (.ty "bool")) aNil)))) (eOp eqF (eV 0) (eV 1))))) (sNext)) ((r4_law_like self_law_like))
def r6_law_like (self_law_like : List PV → RP) : SF := sSeq (sIf (bT (eCall isiF (aCons (eV 1) (aCons (eC (.ty "bool")) aNil)))) (sRet (eAnd (eCall isiF (aCons (eV 0) (aCons (eC (.ty "bool")) aNil))) (eOp eqF (eV 0) (eV 1)))) (sNext)) ((r5_law_like self_law_like))
def body_law_like (self_law_like : List PV → RP) : SF := sSeq (sIf (bE (eU (fun p => .bl (isNP p)) (eV 1))) (sRet (eU (fun p => .bl (isNP p)) (eV 0))) (sNext)) ((r6_law_like self_law_like))
def f_law_like : Nat → List PV → RP
  | 0 => fun _ => .bad
  | n + 1 => runP 2 3 (body_law_like (f_law_like n))
end Law

namespace Law
open PySem PySem.Spec PyProof.Rows L2 Pv

@[reducible] def body_exits : SF := sRet (eSi false (iAny (eCallP f_moves (aCons (eFld ["Unit"] "code" (eV 0)) (aCons (eFld ["Unit"] "handlers" (eV 0)) (aCons (eV 1) aNil))))) (gT [2, 3]) (bYes) (eV 2) [2, 3])
def f_exits : List PV → RP := runP 2 4 body_exits

def l0_law_exits : SF := sIf (bAnd (bE (eU (fun p => .bl (isNP p)) (eV 6))) (bAnd (bE (eChain leF ltF (eOp ixF (eV 7) (eC (.int 0))) (eV 2) (eOp ixF (eV 7) (eC (.int 1))))) (bOr (bE (eU (fun p => .bl (isNP p)) (eOp ixF (eV 7) (eC (.int 4))))) (bE (eOp eqF (eOp ixF (eV 7) (eC (.int 4))) (eV 5)))))) (sSet 6 (eV 7)) (sNext)
@[reducible] def r1_law_exits : SF := sIf (bE (eU (fun p => .bl (!isNP p)) (eV 6))) (sExpr (eM "list" appendF (eV 4) (aCons (eOp ixF (eV 6) (eC (.int 2))) aNil))) (sNext)
@[reducible] def i2_law_exits : SF := sSeq (sSet 6 (eC .non)) (sSeq (sFor (iAny (eV 1)) (gN 7) (l0_law_exits)) (r1_law_exits))
@[reducible] def r3_law_exits : SF := sRet (eSs false (eV 4))
@[reducible] def r4_law_exits : SF := sSeq (sIf (bE (eU (fun p => .bl (!isNP p)) (eV 5))) (i2_law_exits) (sNext)) (r3_law_exits)
@[reducible] def r5_law_exits : SF := sSeq (sIf (bE (eOp eqF (eOp ixF (eV 3) (eC (.int 0))) (eC (.str "fail")))) (sSet 5 (eOp ixF (eV 3) (eC (.int 1)))) (sNext)) (r4_law_exits)
@[reducible] def r6_law_exits : SF := sSeq (sIf (bE (eOp eqF (eOp ixF (eV 3) (eC (.int 0))) (eC (.str "div")))) (sSet 5 (eC (.str "zero"))) (sNext)) (r5_law_exits)
@[reducible] def r7_law_exits : SF := sSeq (sSet 5 (eC .non)) (sSeq (sIf (bE (eOp eqF (eOp ixF (eV 3) (eC (.int 0))) (eC (.str "load")))) (sSet 5 (eC (.str "unbound"))) (sNext)) (r6_law_exits))
@[reducible] def r8_law_exits : SF := sSeq (sIf (bE (eOp inF (eOp ixF (eV 3) (eC (.int 0))) (eTup (aCons (eC (.str "jump")) (aCons (eC (.str "jumpif")) aNil))))) (sExpr (eM "list" appendF (eV 4) (aCons (eOp ixF (eV 3) (eC (.int 1))) aNil))) (sNext)) (r7_law_exits)
@[reducible] def body_law_exits : SF := sSeq (sSet 3 (eOp ixF (eV 0) (eV 2))) (sSeq (sSet 4 (eLst true aNil)) (sSeq (sIf (bE (eOp ninF (eOp ixF (eV 3) (eC (.int 0))) (eTup (aCons (eC (.str "fail")) (aCons (eC (.str "jump")) (aCons (eC (.str "end")) aNil)))))) (sExpr (eM "list" appendF (eV 4) (aCons (eOp (addF false) (eV 2) (eC (.int 1))) aNil))) (sNext)) (r8_law_exits)))
def f_law_exits : List PV → RP := runP 3 8 body_law_exits

@[reducible] def r0_law_wild : SF := sExpr (eM "list" appendF (eV 3) (aCons (eV 7) aNil))
@[reducible] def r1_law_wild : SF := sSeq (sIf (bE (eOp inF (eV 6) (eTup (aCons (eC (.str "jump")) (aCons (eC (.str "jumpif")) aNil))))) (sSet 7 (eTup (aCons (eV 6) (aCons (eCallW f_law_draw (aCons (eV 0) (aCons (eV 1) aNil))) aNil)))) (sNext)) (r0_law_wild)
@[reducible] def r2_law_wild : SF := sSeq (sIf (bE (eOp inF (eV 6) (eTup (aCons (eC (.str "load")) (aCons (eC (.str "store")) (aCons (eC (.str "fail")) aNil)))))) (sSet 7 (eTup (aCons (eV 6) (aCons (eOp ixF (eLst false (aCons (eC (.str "a")) (aCons (eC (.str "zero")) (aCons (eC (.str "unbound")) aNil)))) (eCallW f_law_draw (aCons (eV 0) (aCons (eC (.int 3)) aNil)))) aNil)))) (sNext)) (r1_law_wild)
def l3_law_wild : SF := sSeq (sSet 6 (eOp ixF (eV 2) (eCallW f_law_draw (aCons (eV 0) (aCons (eCall lenF (aCons (eV 2) aNil)) aNil))))) (sSeq (sSet 7 (eTup (aCons (eV 6) aNil))) (sSeq (sIf (bE (eOp eqF (eV 6) (eC (.str "const")))) (sSet 7 (eTup (aCons (eV 6) (aCons (eCallW f_law_draw (aCons (eV 0) (aCons (eC (.int 3)) aNil))) aNil)))) (sNext)) (r2_law_wild)))
def l4_law_wild : SF := sSeq (sSet 8 (eCallW f_law_draw (aCons (eV 0) (aCons (eV 1) aNil)))) (sSeq (sSet 9 (eOp (addF false) (eOp (addF false) (eV 8) (eC (.int 1))) (eCallW f_law_draw (aCons (eV 0) (aCons (eOp subF (eV 1) (eV 8)) aNil))))) (sSeq (sSet 10 (eOp ixF (eLst false (aCons (eC .non) (aCons (eC (.str "zero")) (aCons (eC (.str "unbound")) aNil)))) (eCallW f_law_draw (aCons (eV 0) (aCons (eC (.int 3)) aNil))))) (sExpr (eM "list" appendF (eV 5) (aCons (eTup (aCons (eV 8) (aCons (eV 9) (aCons (eCallW f_law_draw (aCons (eV 0) (aCons (eV 1) aNil))) (aCons (eOp ixF (eLst false (aCons (eC (.int 0)) (aCons (eC (.int 0)) (aCons (eC (.int 1)) (aCons (eC (.int 2)) aNil))))) (eCallW f_law_draw (aCons (eV 0) (aCons (eC (.int 4)) aNil)))) (aCons (eV 10) aNil)))))) aNil)))))
@[reducible] def r5_law_wild : SF := sRet (eLst true (aCons (eV 3) (aCons (eLc false (iR1 (aCons (eV 1) aNil)) (gN 4) (bYes) (eCallW f_law_line (aCons (eV 0) aNil)) [4]) (aCons (eV 5) aNil))))
@[reducible] def r6_law_wild : SF := sSeq (sAsg (eOp ixF (eLst false (aCons (eTup (aCons (eC (.str "end")) aNil)) (aCons (eTup (aCons (eC (.str "fail")) (aCons (eC (.str "zero")) aNil))) (aCons (eTup (aCons (eC (.str "jump")) (aCons (eCallW f_law_draw (aCons (eV 0) (aCons (eV 1) aNil))) aNil))) aNil)))) (eCallW f_law_draw (aCons (eV 0) (aCons (eC (.int 3)) aNil)))) (gSubF setLF (eV 3) (eOp subF (eV 1) (eC (.int 1))))) (sSeq (sSet 5 (eLst true aNil)) (sSeq (sFor (iR1 (aCons (eCallW f_law_draw (aCons (eV 0) (aCons (eC (.int 3)) aNil))) aNil)) (gN 4) (l4_law_wild)) (r5_law_wild)))
@[reducible] def body_law_wild : SF := sSeq (sSet 1 (eOp (addF false) (eC (.int 1)) (eCallW f_law_draw (aCons (eV 0) (aCons (eC (.int 14)) aNil))))) (sSeq (sSet 2 (eLst false (aCons (eC (.str "pop")) (aCons (eC (.str "copy")) (aCons (eC (.str "add")) (aCons (eC (.str "sub")) (aCons (eC (.str "div")) (aCons (eC (.str "less")) (aCons (eC (.str "not")) (aCons (eC (.str "print")) (aCons (eC (.str "skip")) (aCons (eC (.str "end")) (aCons (eC (.str "const")) (aCons (eC (.str "const")) (aCons (eC (.str "const")) aNil))))))))))))))) (sSeq (sSet 2 (eOp (addF false) (eV 2) (eLst false (aCons (eC (.str "load")) (aCons (eC (.str "store")) (aCons (eC (.str "fail")) (aCons (eC (.str "jump")) (aCons (eC (.str "jumpif")) aNil)))))))) (sSeq (sSet 3 (eLst true aNil)) (sSeq (sFor (iR1 (aCons (eV 1) aNil)) (gN 4) (l3_law_wild)) (r6_law_wild)))))
def f_law_wild : List PV → Sto → R PV := runW 1 11 body_law_wild

@[reducible] def r0_law_change : SF := sSeq (sSet 2 (eOp (addF false) (eCall int1F (aCons (eOp inF (eOp ixF (eV 0) (eC (.int 0))) (eTup (aCons (eC (.str "const")) (aCons (eC (.str "load")) (aCons (eC (.str "add")) (aCons (eC (.str "sub")) (aCons (eC (.str "div")) (aCons (eC (.str "less")) (aCons (eC (.str "not")) aNil))))))))) aNil)) (eOp (mulF false) (eC (.int 2)) (eCall int1F (aCons (eOp eqF (eOp ixF (eV 0) (eC (.int 0))) (eC (.str "copy"))) aNil))))) (sRet (eLst false (aCons (eV 1) (aCons (eOp subF (eV 2) (eV 1)) aNil))))
@[reducible] def r1_law_change : SF := sSeq (sIf (bE (eOp inF (eOp ixF (eV 0) (eC (.int 0))) (eTup (aCons (eC (.str "add")) (aCons (eC (.str "sub")) (aCons (eC (.str "div")) (aCons (eC (.str "less")) aNil))))))) (sSet 1 (eC (.int 2))) (sNext)) (r0_law_change)
@[reducible] def body_law_change : SF := sSeq (sSet 1 (eC (.int 0))) (sSeq (sIf (bE (eOp inF (eOp ixF (eV 0) (eC (.int 0))) (eTup (aCons (eC (.str "store")) (aCons (eC (.str "pop")) (aCons (eC (.str "copy")) (aCons (eC (.str "not")) (aCons (eC (.str "print")) (aCons (eC (.str "jumpif")) aNil))))))))) (sSet 1 (eC (.int 1))) (sNext)) (r1_law_change))
def f_law_change : List PV → RP := runP 1 3 body_law_change

def l0_law_handler_depth : SF := sIf (bAnd (bE (eU (fun p => .bl (!isNP p)) (eV 4))) (bAnd (bE (eChain leF ltF (eOp ixF (eV 5) (eC (.int 0))) (eV 2) (eOp ixF (eV 5) (eC (.int 1))))) (bOr (bE (eU (fun p => .bl (isNP p)) (eOp ixF (eV 5) (eC (.int 4))))) (bE (eOp eqF (eOp ixF (eV 5) (eC (.int 4))) (eV 4)))))) (sRet (eLst false (aCons (eOp ixF (eV 5) (eC (.int 2))) (aCons (eOp ixF (eV 5) (eC (.int 3))) aNil)))) (sNext)
@[reducible] def r1_law_handler_depth : SF := sRet (eC .non)
@[reducible] def r2_law_handler_depth : SF := sSeq (sFor (iAny (eV 1)) (gN 5) (l0_law_handler_depth)) (r1_law_handler_depth)
@[reducible] def r3_law_handler_depth : SF := sSeq (sIf (bE (eOp eqF (eOp ixF (eV 3) (eC (.int 0))) (eC (.str "fail")))) (sSet 4 (eOp ixF (eV 3) (eC (.int 1)))) (sNext)) (r2_law_handler_depth)
@[reducible] def r4_law_handler_depth : SF := sSeq (sIf (bE (eOp eqF (eOp ixF (eV 3) (eC (.int 0))) (eC (.str "div")))) (sSet 4 (eC (.str "zero"))) (sNext)) (r3_law_handler_depth)
@[reducible] def body_law_handler_depth : SF := sSeq (sSet 3 (eOp ixF (eV 0) (eV 2))) (sSeq (sSet 4 (eC .non)) (sSeq (sIf (bE (eOp eqF (eOp ixF (eV 3) (eC (.int 0))) (eC (.str "load")))) (sSet 4 (eC (.str "unbound"))) (sNext)) (r4_law_handler_depth)))
def f_law_handler_depth : List PV → RP := runP 3 6 body_law_handler_depth

@[reducible] def r0_law_depths : SF := sExpr (eM "list" appendF (eV 7) (aCons (eV 8) aNil))
@[reducible] def i1_law_depths : SF := sSeq (sIf (bE (eOp ltF (eOp ixF (eV 2) (eV 4)) (eOp ixF (eV 8) (eC (.int 1))))) (sRet (eC .non)) (sNext)) (r0_law_depths)
@[reducible] def i2_law_depths : SF := sSeq (sAsg (eV 10) (gSubF setLF (eV 2) (eV 9))) (sExpr (eM "list" appendF (eV 3) (aCons (eV 9) aNil)))
def l3_law_depths : SF := sIf (bE (eU (fun p => .bl (isNP p)) (eOp ixF (eV 2) (eV 9)))) (i2_law_depths) (sIf (bE (eOp neF (eOp ixF (eV 2) (eV 9)) (eV 10))) (sRet (eC .non)) (sNext))
@[reducible] def r4_law_depths : SF := sFor (iAny (eV 7)) (gU [9, 10]) (l3_law_depths)
@[reducible] def r5_law_depths : SF := sSeq (sSet 8 (eCallP f_law_handler_depth (aCons (eV 0) (aCons (eV 1) (aCons (eV 4) aNil))))) (sSeq (sIf (bE (eU (fun p => .bl (!isNP p)) (eV 8))) (i1_law_depths) (sNext)) (r4_law_depths))
@[reducible] def r6_law_depths : SF := sSeq (sIf (bE (eOp inF (eOp ixF (eOp ixF (eV 0) (eV 4)) (eC (.int 0))) (eTup (aCons (eC (.str "jump")) (aCons (eC (.str "jumpif")) aNil))))) (sExpr (eM "list" appendF (eV 7) (aCons (eLst false (aCons (eOp ixF (eOp ixF (eV 0) (eV 4)) (eC (.int 1))) (aCons (eOp (addF false) (eOp ixF (eV 2) (eV 4)) (eV 6)) aNil))) aNil))) (sNext)) (r5_law_depths)
@[reducible] def r7_law_depths : SF := sSeq (sSet 7 (eLst true aNil)) (sSeq (sIf (bE (eOp ninF (eOp ixF (eOp ixF (eV 0) (eV 4)) (eC (.int 0))) (eTup (aCons (eC (.str "fail")) (aCons (eC (.str "jump")) (aCons (eC (.str "end")) aNil)))))) (sExpr (eM "list" appendF (eV 7) (aCons (eLst false (aCons (eOp (addF false) (eV 4) (eC (.int 1))) (aCons (eOp (addF false) (eOp ixF (eV 2) (eV 4)) (eV 6)) aNil))) aNil))) (sNext)) (r6_law_depths))
def l8_law_depths : SF := sSeq (sSet 4 (eM "list" popF (eV 3) aNil)) (sSeq (sAsg (eCallP f_law_change (aCons (eOp ixF (eV 0) (eV 4)) aNil)) (gU [5, 6])) (sSeq (sIf (bE (eOp ltF (eOp ixF (eV 2) (eV 4)) (eV 5))) (sRet (eC .non)) (sNext)) (r7_law_depths)))
@[reducible] def r9_law_depths : SF := sRet (eCall tupleF (aCons (eV 2) aNil))
@[reducible] def body_law_depths : SF := sSeq (sSet 2 (eLc true (iAny (eV 0)) (gN 11) (bYes) (eC .non) [11])) (sSeq (sAsg (eC (.int 0)) (gSubF setLF (eV 2) (eC (.int 0)))) (sSeq (sSet 3 (eLst true (aCons (eC (.int 0)) aNil))) (sSeq (sWhl (bE (eOp gtF (eCall lenF (aCons (eV 3) aNil)) (eC (.int 0)))) (l8_law_depths)) (r9_law_depths))))
def f_law_depths : List PV → RP := runP 2 12 body_law_depths

@[reducible] def i0_law : SF := sSeq (sSet 9 (eCallW f_law_draw (aCons (eV 1) (aCons (eCall lenF (aCons (eV 2) aNil)) aNil)))) (sIf (bE (eOp ltF (eV 9) (eOp subF (eCall lenF (aCons (eV 2) aNil)) (eC (.int 1))))) (sAsg (eOp ixF (eLst false (aCons (eTup (aCons (eC (.str "pop")) aNil)) (aCons (eTup (aCons (eC (.str "copy")) aNil)) (aCons (eTup (aCons (eC (.str "add")) aNil)) (aCons (eTup (aCons (eC (.str "skip")) aNil)) (aCons (eTup (aCons (eC (.str "const")) (aCons (eC (.int 1)) aNil))) (aCons (eTup (aCons (eC (.str "end")) aNil)) aNil))))))) (eCallW f_law_draw (aCons (eV 1) (aCons (eC (.int 6)) aNil)))) (gSubF setLF (eV 2) (eV 9))) (sNext))
@[reducible] def t1_law : SF := sSeq (sSet 7 (eMakeP i_Unit_init 3 [] (aCons (eV 2) (aCons (eV 3) (aCons (eV 4) aNil))))) (sSet 6 (eFld ["Unit"] "found_depths" (eV 7)))
def l2_law : SF := sIf (bAnd (bE (eU (fun p => .bl (!isNP p)) (eOp ixF (eV 5) (eV 8)))) (bNot (bT (eCallP (f_law_like 10) (aCons (eCallP f_exits (aCons (eV 7) (aCons (eV 8) aNil))) (aCons (eCallP f_law_exits (aCons (eV 2) (aCons (eV 4) (aCons (eV 8) aNil)))) aNil)))))) (sRet (eC (.bl false))) (sNext)
@[reducible] def r3_law : SF := sRet (eC (.bl true))
@[reducible] def r4_law : SF := sSeq (sFor (iR1 (aCons (eCall lenF (aCons (eV 2) aNil)) aNil)) (gN 8) (l2_law)) (r3_law)
@[reducible] def r5_law : SF := sSeq (sIf (bOr (bNot (bT (eCallP (f_law_like 10) (aCons (eV 6) (aCons (eV 5) aNil))))) (bNot (bT (eCallP (f_law_like 10) (aCons (eCall (listF false) (aCons (eFld ["Unit"] "found_depths" (eV 7)) aNil)) (aCons (eCall (listF false) (aCons (eV 5) aNil)) aNil)))))) (sRet (eC (.bl false))) (sNext)) (r4_law)
@[reducible] def r6_law : SF := sSeq (sIf (bOr (bE (eU (fun p => .bl (isNP p)) (eV 5))) (bE (eU (fun p => .bl (isNP p)) (eV 6)))) (sRet (eAnd (eU (fun p => .bl (isNP p)) (eV 5)) (eU (fun p => .bl (isNP p)) (eV 6)))) (sNext)) (r5_law)
@[reducible] def r7_law : SF := sSeq (sSet 5 (eCallP f_law_depths (aCons (eV 2) (aCons (eV 4) aNil)))) (sSeq (sSet 6 (eC .non)) (sSeq (sSet 7 (eC .non)) (sSeq (sTry (t1_law) [([("TableError", false), ("BadCode", false), ("FallsOff", false), ("BadDepth", true), ("BadInstruction", false), ("BadTarget", false), ("BadLine", false), ("BadHandler", false)], sSet 6 (eC .non))]) (r6_law))))
@[reducible] def body_law : SF := sSeq (sSet 1 (eCallW f_law_begin (aCons (eV 0) aNil))) (sSeq (sAsg (eCallW f_law_parts (aCons (eV 1) aNil)) (gU [2, 3, 4])) (sSeq (sIf (bE (eOp eqF (eCallW f_law_draw (aCons (eV 1) (aCons (eC (.int 2)) aNil))) (eC (.int 0)))) (sAsg (eCallW f_law_wild (aCons (eV 1) aNil)) (gU [2, 3, 4])) (sIf (bE (eOp eqF (eCallW f_law_draw (aCons (eV 1) (aCons (eC (.int 2)) aNil))) (eC (.int 0)))) (i0_law) (sNext))) (r7_law)))
def f_law : List PV → RP := runP 1 10 body_law
end Law

namespace Law
open PySem PySem.Spec PyProof.Rows L2 Pv
def topS (i : Nat) : Stmt := PySem.Challenge.pw_codetables_k03_whole_depths.main.body.getD i (.Pass ⟨0, 0, 0, 0⟩)
theorem sc_in_range : FnScope ["value", "least", "greatest"] ["value", "least", "greatest"] (defScope (topS 20)) := ⟨rfl, rfl, rfl, by decide +kernel, rfl, by decide +kernel, by decide +kernel⟩
theorem d_in_range {P : Program} {w : World} {K : PySem.W.Frag} {mg : Str → Option Value} {base : Heap} (F : DefAt K mg "in_range" (topS 20) ["value", "least", "greatest"]) (z_bool : mg "bool" = none) (z_isinstance : mg "isinstance" = none) (z_int : mg "int" = none) : Cal P w K mg base 1 "in_range" (spP ⟨K, mg⟩ f_in_range) := by
  obtain ⟨f, fd, F, hm, hb⟩ := F
  refine Cal.mkP F hm sc_in_range hb rfl rfl fun X W e1 e2 e3 e4 e5 b => ?_
  subst e1 e2 e3 e4 e5
  have nd := sc_in_range.nd
  have g_bool := b.gl "bool" (by decide +kernel)
  have g_isinstance := b.gl "isinstance" (by decide +kernel)
  have g_int := b.gl "int" (by decide +kernel)
  have v1 := fun {pos : Pos} => b.v (pos := pos) 1 "least" (by decide +kernel)
  have v0 := fun {pos : Pos} => b.v (pos := pos) 0 "value" (by decide +kernel)
  have v2 := fun {pos : Pos} => b.v (pos := pos) 2 "greatest" (by decide +kernel)
  exact (Ss.one (St.ret (E.and (E.callB call_isi cf_isi g_isinstance z_isinstance (by decide +kernel) (A.cons v0 (A.cons (E.ty g_int z_int (by decide +kernel)) A.nil))) (E.and (E.not (E.callB call_isi cf_isi g_isinstance z_isinstance (by decide +kernel) (A.cons v0 (A.cons (E.ty g_bool z_bool (by decide +kernel)) A.nil)))) (E.one (E.chain op_le op_le opf_B0 opf_B0 v1 v0 v2))))))

theorem sc_is_word : FnScope ["value", "letter"] ["value"] (defScope (topS 21)) := ⟨rfl, rfl, rfl, by decide +kernel, rfl, by decide +kernel, by decide +kernel⟩
theorem d_is_word {P : Program} {w : World} {K : PySem.W.Frag} {mg : Str → Option Value} {base : Heap} (F : DefAt K mg "is_word" (topS 21) ["value"]) (z_len : mg "len" = none) (z_str : mg "str" = none) (z_isinstance : mg "isinstance" = none) (k_LETTERS : ∃ t, mg "LETTERS" = some (.str c_LETTERS t)) : Cal P w K mg base 1 "is_word" (spP ⟨K, mg⟩ f_is_word) := by
  obtain ⟨f, fd, F, hm, hb⟩ := F
  refine Cal.mkP F hm sc_is_word hb rfl rfl fun X W e1 e2 e3 e4 e5 b => ?_
  subst e1 e2 e3 e4 e5
  have nd := sc_is_word.nd
  have g_len := b.gl "len" (by decide +kernel)
  have g_str := b.gl "str" (by decide +kernel)
  have g_isinstance := b.gl "isinstance" (by decide +kernel)
  have g_LETTERS := b.gl "LETTERS" (by decide +kernel)
  have v0 := fun {pos : Pos} => b.v (pos := pos) 0 "value" (by decide +kernel)
  have v1 := fun {pos : Pos} => b.v (pos := pos) 1 "letter" (by decide +kernel)
  have t1 := fun {pos : Pos} => b.t (pos := pos) nd 1 "letter" (by decide +kernel)
  exact (Ss.cons (St.ite (BW.t (BW.or (B.not (B.tru (E.callB call_isi cf_isi g_isinstance z_isinstance (by decide +kernel) (A.cons v0 (A.cons (E.ty g_str z_str (by decide +kernel)) A.nil))))) (BW.or1 (B.not (B.chain op_le op_le opf_B0 opf_B0 E.int (E.callB cr_len cf_len g_len z_len (by decide +kernel) (A.cons v0 A.nil)) E.int))))) (Ss.one (St.ret E.bl)) Ss.nil)
  (Ss.cons (St.for b.po b.calm (I.any v0) t1 (Ss.one (St.ite (B.cmp (or_nin b.hu65) opf_nin v1 (E.gstr g_LETTERS k_LETTERS) (by with_unfolding_all rfl)) (Ss.one (St.ret E.bl)) Ss.nil)))
  (Ss.one (St.ret E.bl))))

theorem sc_fits_form : FnScope ["value"] ["value"] (defScope (topS 22)) := ⟨rfl, rfl, rfl, by decide +kernel, rfl, by decide +kernel, by decide +kernel⟩
theorem d_fits_form {P : Program} {w : World} {K : PySem.W.Frag} {mg : Str → Option Value} {base : Heap} (F : DefAt K mg "fits_form" (topS 22) ["value"]) (c_in_range : Cal P w K mg base 1 "in_range" (spP ⟨K, mg⟩ f_in_range)) (c_is_word : Cal P w K mg base 1 "is_word" (spP ⟨K, mg⟩ f_is_word)) (z_str : mg "str" = none) (z_isinstance : mg "isinstance" = none) (z_len : mg "len" = none) (z_tuple : mg "tuple" = none) (k_PLAIN : WTup K mg "PLAIN" c_PLAIN) (k_GREATEST : ∃ t, mg "GREATEST" = some (.int c_GREATEST t)) (k_NAMED : WTup K mg "NAMED" c_NAMED) (z_bool : mg "bool" = none) (z_int : mg "int" = none) (k_JUMPS : WTup K mg "JUMPS" c_JUMPS) : Cal P w K mg base 2 "fits_form" (spP ⟨K, mg⟩ f_fits_form) := by
  obtain ⟨f, fd, F, hm, hb⟩ := F
  refine Cal.mkP F hm sc_fits_form hb rfl rfl fun X W e1 e2 e3 e4 e5 b => ?_
  subst e1 e2 e3 e4 e5
  have nd := sc_fits_form.nd
  have g_str := b.gl "str" (by decide +kernel)
  have g_isinstance := b.gl "isinstance" (by decide +kernel)
  have g_len := b.gl "len" (by decide +kernel)
  have g_tuple := b.gl "tuple" (by decide +kernel)
  have g_PLAIN := b.gl "PLAIN" (by decide +kernel)
  have g_GREATEST := b.gl "GREATEST" (by decide +kernel)
  have g_in_range := b.gl "in_range" (by decide +kernel)
  have g_NAMED := b.gl "NAMED" (by decide +kernel)
  have g_is_word := b.gl "is_word" (by decide +kernel)
  have g_bool := b.gl "bool" (by decide +kernel)
  have g_int := b.gl "int" (by decide +kernel)
  have g_JUMPS := b.gl "JUMPS" (by decide +kernel)
  have v0 := fun {pos : Pos} => b.v (pos := pos) 0 "value" (by decide +kernel)
  exact (Ss.cons (St.ite (BW.t (BW.or (B.not (B.tru (E.callB call_isi cf_isi g_isinstance z_isinstance (by decide +kernel) (A.cons v0 (A.cons (E.ty g_tuple z_tuple (by decide +kernel)) A.nil))))) (BW.or (B.not (B.chain op_le op_le opf_B0 opf_B0 E.int (E.callB cr_len cf_len g_len z_len (by decide +kernel) (A.cons v0 A.nil)) E.int)) (BW.or1 (B.not (B.tru (E.callB call_isi cf_isi g_isinstance z_isinstance (by decide +kernel) (A.cons (E.ix v0 E.int) (A.cons (E.ty g_str z_str (by decide +kernel)) A.nil))))))))) (Ss.one (St.ret E.bl)) Ss.nil)
  (Ss.cons (St.ite (B.eq b.hu (E.callB cr_len cf_len g_len z_len (by decide +kernel) (A.cons v0 A.nil)) E.int) (Ss.one (St.ret (E.cmp (or_in b.hu65) opf_in (E.ix v0 E.int) (E.gtup g_PLAIN k_PLAIN) (by with_unfolding_all rfl)))) Ss.nil)
  (Ss.cons (St.ite (B.eq b.hu (E.ix v0 E.int) E.str) (Ss.one (St.ret (E.call c_in_range b.room b.tk g_in_range (A.cons (E.ix v0 E.int) (A.cons (E.neg un_neg (E.gint g_GREATEST k_GREATEST)) (A.cons (E.gint g_GREATEST k_GREATEST) A.nil)))))) Ss.nil)
  (Ss.cons (St.ite (B.cmp (or_in b.hu65) opf_in (E.ix v0 E.int) (E.gtup g_NAMED k_NAMED) (by with_unfolding_all rfl)) (Ss.one (St.ret (E.call c_is_word b.room b.tk g_is_word (A.cons (E.ix v0 E.int) A.nil)))) Ss.nil)
  (Ss.one (St.ret (E.and (E.cmp (or_in b.hu65) opf_in (E.ix v0 E.int) (E.gtup g_JUMPS k_JUMPS) (by with_unfolding_all rfl)) (E.and (E.callB call_isi cf_isi g_isinstance z_isinstance (by decide +kernel) (A.cons (E.ix v0 E.int) (A.cons (E.ty g_int z_int (by decide +kernel)) A.nil))) (E.and (E.not (E.callB call_isi cf_isi g_isinstance z_isinstance (by decide +kernel) (A.cons (E.ix v0 E.int) (A.cons (E.ty g_bool z_bool (by decide +kernel)) A.nil)))) (E.one (E.ge (E.ix v0 E.int) E.int)))))))))))

theorem sc_is_handler : FnScope ["value", "many", "start", "end", "target", "depth", "kind"] ["value", "many"] (defScope (topS 23)) := ⟨rfl, rfl, rfl, by decide +kernel, rfl, by decide +kernel, by decide +kernel⟩
theorem d_is_handler {P : Program} {w : World} {K : PySem.W.Frag} {mg : Str → Option Value} {base : Heap} (F : DefAt K mg "is_handler" (topS 23) ["value", "many"]) (c_in_range : Cal P w K mg base 1 "in_range" (spP ⟨K, mg⟩ f_in_range)) (c_is_word : Cal P w K mg base 1 "is_word" (spP ⟨K, mg⟩ f_is_word)) (z_len : mg "len" = none) (z_tuple : mg "tuple" = none) (z_isinstance : mg "isinstance" = none) (k_MOST : ∃ t, mg "MOST" = some (.int c_MOST t)) : Cal P w K mg base 2 "is_handler" (spP ⟨K, mg⟩ f_is_handler) := by
  obtain ⟨f, fd, F, hm, hb⟩ := F
  refine Cal.mkP F hm sc_is_handler hb rfl rfl fun X W e1 e2 e3 e4 e5 b => ?_
  subst e1 e2 e3 e4 e5
  have nd := sc_is_handler.nd
  have g_len := b.gl "len" (by decide +kernel)
  have g_tuple := b.gl "tuple" (by decide +kernel)
  have g_isinstance := b.gl "isinstance" (by decide +kernel)
  have g_in_range := b.gl "in_range" (by decide +kernel)
  have g_is_word := b.gl "is_word" (by decide +kernel)
  have g_MOST := b.gl "MOST" (by decide +kernel)
  have v0 := fun {pos : Pos} => b.v (pos := pos) 0 "value" (by decide +kernel)
  have v2 := fun {pos : Pos} => b.v (pos := pos) 2 "start" (by decide +kernel)
  have v3 := fun {pos : Pos} => b.v (pos := pos) 3 "end" (by decide +kernel)
  have v1 := fun {pos : Pos} => b.v (pos := pos) 1 "many" (by decide +kernel)
  have v6 := fun {pos : Pos} => b.v (pos := pos) 6 "kind" (by decide +kernel)
  have v5 := fun {pos : Pos} => b.v (pos := pos) 5 "depth" (by decide +kernel)
  have v4 := fun {pos : Pos} => b.v (pos := pos) 4 "target" (by decide +kernel)
  exact (Ss.cons (St.ite (BW.t (BW.or (B.not (B.tru (E.callB call_isi cf_isi g_isinstance z_isinstance (by decide +kernel) (A.cons v0 (A.cons (E.ty g_tuple z_tuple (by decide +kernel)) A.nil))))) (BW.or1 (B.ne b.hu (E.callB cr_len cf_len g_len z_len (by decide +kernel) (A.cons v0 A.nil)) E.int)))) (Ss.one (St.ret E.bl)) Ss.nil)
  (Ss.cons (St.asg v0 (Tg.un b.calm (gns_cons (b.pg nd 2 "start" (by decide +kernel)) (gns_cons (b.pg nd 3 "end" (by decide +kernel)) (gns_cons (b.pg nd 4 "target" (by decide +kernel)) (gns_cons (b.pg nd 5 "depth" (by decide +kernel)) (gns_cons (b.pg nd 6 "kind" (by decide +kernel)) gns_nil)))))))
  (Ss.cons (St.ite (BW.t (BW.or (B.not (B.tru (E.call c_in_range b.room b.tk g_in_range (A.cons v2 (A.cons E.int (A.cons (E.sub v1 E.int) A.nil)))))) (BW.or (B.not (B.tru (E.call c_in_range b.room b.tk g_in_range (A.cons v3 (A.cons E.int (A.cons v1 A.nil)))))) (BW.or1 (B.ge v2 v3))))) (Ss.one (St.ret E.bl)) Ss.nil)
  (Ss.one (St.ret (E.and (E.call c_in_range b.room b.tk g_in_range (A.cons v4 (A.cons E.int (A.cons (E.sub v1 E.int) A.nil)))) (E.and (E.call c_in_range b.room b.tk g_in_range (A.cons v5 (A.cons E.int (A.cons (E.gint g_MOST k_MOST) A.nil)))) (E.one (E.or (E.isN v6) (E.one (E.call c_is_word b.room b.tk g_is_word (A.cons v6 A.nil))))))))))))

theorem sc_raised_kind : FnScope ["instruction"] ["instruction"] (defScope (topS 24)) := ⟨rfl, rfl, rfl, by decide +kernel, rfl, by decide +kernel, by decide +kernel⟩
theorem d_raised_kind {P : Program} {w : World} {K : PySem.W.Frag} {mg : Str → Option Value} {base : Heap} (F : DefAt K mg "raised_kind" (topS 24) ["instruction"])  : Cal P w K mg base 1 "raised_kind" (spP ⟨K, mg⟩ f_raised_kind) := by
  obtain ⟨f, fd, F, hm, hb⟩ := F
  refine Cal.mkP F hm sc_raised_kind hb rfl rfl fun X W e1 e2 e3 e4 e5 b => ?_
  subst e1 e2 e3 e4 e5
  have nd := sc_raised_kind.nd
  have v0 := fun {pos : Pos} => b.v (pos := pos) 0 "instruction" (by decide +kernel)
  exact (Ss.cons (St.ite (B.eq b.hu (E.ix v0 E.int) E.str) (Ss.one (St.ret E.str)) Ss.nil)
  (Ss.cons (St.ite (B.eq b.hu (E.ix v0 E.int) E.str) (Ss.one (St.ret E.str)) Ss.nil)
  (Ss.cons (St.ite (B.eq b.hu (E.ix v0 E.int) E.str) (Ss.one (St.ret (E.ix v0 E.int))) Ss.nil)
  (Ss.one (St.ret E.non)))))

theorem sc_receiver : FnScope ["handlers", "index", "kind", "handler"] ["handlers", "index", "kind"] (defScope (topS 25)) := ⟨rfl, rfl, rfl, by decide +kernel, rfl, by decide +kernel, by decide +kernel⟩
theorem d_receiver {P : Program} {w : World} {K : PySem.W.Frag} {mg : Str → Option Value} {base : Heap} (F : DefAt K mg "receiver" (topS 25) ["handlers", "index", "kind"])  : Cal P w K mg base 1 "receiver" (spP ⟨K, mg⟩ f_receiver) := by
  obtain ⟨f, fd, F, hm, hb⟩ := F
  refine Cal.mkP F hm sc_receiver hb rfl rfl fun X W e1 e2 e3 e4 e5 b => ?_
  subst e1 e2 e3 e4 e5
  have nd := sc_receiver.nd
  have v0 := fun {pos : Pos} => b.v (pos := pos) 0 "handlers" (by decide +kernel)
  have v3 := fun {pos : Pos} => b.v (pos := pos) 3 "handler" (by decide +kernel)
  have v2 := fun {pos : Pos} => b.v (pos := pos) 2 "kind" (by decide +kernel)
  have v1 := fun {pos : Pos} => b.v (pos := pos) 1 "index" (by decide +kernel)
  have t3 := fun {pos : Pos} => b.t (pos := pos) nd 3 "handler" (by decide +kernel)
  exact (Ss.cons (St.for b.po b.calm (I.any v0) t3 (Ss.one (St.ite (BW.t (BW.and (B.chain op_le op_lt opf_B0 opf_B0 (E.ix v3 E.int) v1 (E.ix v3 E.int)) (BW.and1 (BW.t (BW.or (B.isN (E.ix v3 E.int)) (BW.or1 (B.eq b.hu (E.ix v3 E.int) v2))))))) (Ss.one (St.ret v3)) Ss.nil)))
  (Ss.one (St.ret E.non)))

theorem sc_moves : FnScope ["code", "handlers", "index", "found", "word", "kind", "handler"] ["code", "handlers", "index"] (defScope (topS 27)) := ⟨rfl, rfl, rfl, by decide +kernel, rfl, by decide +kernel, by decide +kernel⟩
theorem d_moves {P : Program} {w : World} {K : PySem.W.Frag} {mg : Str → Option Value} {base : Heap} (F : DefAt K mg "moves" (topS 27) ["code", "handlers", "index"]) (c_raised_kind : Cal P w K mg base 1 "raised_kind" (spP ⟨K, mg⟩ f_raised_kind)) (c_receiver : Cal P w K mg base 1 "receiver" (spP ⟨K, mg⟩ f_receiver)) (z_len : mg "len" = none) (k_LAST : WTup K mg "LAST" c_LAST) (k_JUMPS : WTup K mg "JUMPS" c_JUMPS) : Cal P w K mg base 2 "moves" (spP ⟨K, mg⟩ f_moves) := by
  obtain ⟨f, fd, F, hm, hb⟩ := F
  refine Cal.mkP F hm sc_moves hb rfl rfl fun X W e1 e2 e3 e4 e5 b => ?_
  subst e1 e2 e3 e4 e5
  have nd := sc_moves.nd
  have g_len := b.gl "len" (by decide +kernel)
  have g_LAST := b.gl "LAST" (by decide +kernel)
  have g_JUMPS := b.gl "JUMPS" (by decide +kernel)
  have g_raised_kind := b.gl "raised_kind" (by decide +kernel)
  have g_receiver := b.gl "receiver" (by decide +kernel)
  have v0 := fun {pos : Pos} => b.v (pos := pos) 0 "code" (by decide +kernel)
  have v2 := fun {pos : Pos} => b.v (pos := pos) 2 "index" (by decide +kernel)
  have v4 := fun {pos : Pos} => b.v (pos := pos) 4 "word" (by decide +kernel)
  have v3 := fun {pos : Pos} => b.v (pos := pos) 3 "found" (by decide +kernel)
  have v5 := fun {pos : Pos} => b.v (pos := pos) 5 "kind" (by decide +kernel)
  have v1 := fun {pos : Pos} => b.v (pos := pos) 1 "handlers" (by decide +kernel)
  have v6 := fun {pos : Pos} => b.v (pos := pos) 6 "handler" (by decide +kernel)
  exact (Ss.cons (b.set nd 3 "found" (by decide +kernel) (E.lst true A.nil))
  (Ss.cons (b.set nd 4 "word" (by decide +kernel) (E.ix (E.ix v0 v2) E.int))
  (Ss.cons (St.ite (BW.t (BW.and (B.cmp (or_nin b.hu65) opf_nin v4 (E.gtup g_LAST k_LAST) (by with_unfolding_all rfl)) (BW.and1 (B.lt (E.add false v2 E.int) (E.callB cr_len cf_len g_len z_len (by decide +kernel) (A.cons v0 A.nil)))))) (Ss.one (St.expr (E.bm PySem.F.plainAttrs_list PySem.F.slot_list_append PySem.F.type_list_append mt_append mtf_append v3 (A.cons (E.tup (A.cons (E.add false v2 E.int) (A.cons E.non A.nil))) A.nil)))) Ss.nil)
  (Ss.cons (St.ite (B.cmp (or_in b.hu65) opf_in v4 (E.gtup g_JUMPS k_JUMPS) (by with_unfolding_all rfl)) (Ss.one (St.expr (E.bm PySem.F.plainAttrs_list PySem.F.slot_list_append PySem.F.type_list_append mt_append mtf_append v3 (A.cons (E.tup (A.cons (E.ix (E.ix v0 v2) E.int) (A.cons E.non A.nil))) A.nil)))) Ss.nil)
  (Ss.cons (b.set nd 5 "kind" (by decide +kernel) (E.call c_raised_kind b.room b.tk g_raised_kind (A.cons (E.ix v0 v2) A.nil)))
  (Ss.cons (St.ite (B.notN v5) (Ss.cons (b.set nd 6 "handler" (by decide +kernel) (E.call c_receiver b.room b.tk g_receiver (A.cons v1 (A.cons v2 (A.cons v5 A.nil)))))
  (Ss.one (St.ite (B.notN v6) (Ss.one (St.expr (E.bm PySem.F.plainAttrs_list PySem.F.slot_list_append PySem.F.type_list_append mt_append mtf_append v3 (A.cons (E.tup (A.cons (E.ix v6 E.int) (A.cons v6 A.nil))) A.nil)))) Ss.nil))) Ss.nil)
  (Ss.one (St.ret v3))))))))

theorem sc_check_parts : FnScope ["code", "lines", "handlers", "index", "value", "instruction", "handler"] ["code", "lines", "handlers"] (defScope (topS 28)) := ⟨rfl, rfl, rfl, by decide +kernel, rfl, by decide +kernel, by decide +kernel⟩
theorem d_check_parts {P : Program} {w : World} {K : PySem.W.Frag} {mg : Str → Option Value} {base : Heap} (F : DefAt K mg "check_parts" (topS 28) ["code", "lines", "handlers"]) (c_fits_form : Cal P w K mg base 2 "fits_form" (spP ⟨K, mg⟩ f_fits_form)) (c_is_handler : Cal P w K mg base 2 "is_handler" (spP ⟨K, mg⟩ f_is_handler)) (c_in_range : Cal P w K mg base 1 "in_range" (spP ⟨K, mg⟩ f_in_range)) (z_len : mg "len" = none) (k_MOST : ∃ t, mg "MOST" = some (.int c_MOST t)) (x_BadCode : ExcC K mg "BadCode" (He.ga K "BadCode")) (z_enumerate : mg "enumerate" = none) (x_BadInstruction : ExcI P w K mg base "BadInstruction" "index" (He.ga K "BadInstruction")) (k_JUMPS : WTup K mg "JUMPS" c_JUMPS) (x_BadTarget : ExcI P w K mg base "BadTarget" "index" (He.ga K "BadTarget")) (z_max : mg "max" = none) (z_range : mg "range" = none) (k_LINES : ∃ t, mg "LINES" = some (.int c_LINES t)) (x_BadLine : ExcI P w K mg base "BadLine" "index" (He.ga K "BadLine")) (x_BadHandler : ExcI P w K mg base "BadHandler" "index" (He.ga K "BadHandler")) (k_LAST : WTup K mg "LAST" c_LAST) (x_FallsOff : ExcC K mg "FallsOff" (He.ga K "FallsOff")) : Cal P w K mg base 3 "check_parts" (spP ⟨K, mg⟩ f_check_parts) := by
  obtain ⟨f, fd, F, hm, hb⟩ := F
  refine Cal.mkP F hm sc_check_parts hb rfl rfl fun X W e1 e2 e3 e4 e5 b => ?_
  subst e1 e2 e3 e4 e5
  have nd := sc_check_parts.nd
  have g_len := b.gl "len" (by decide +kernel)
  have g_MOST := b.gl "MOST" (by decide +kernel)
  have g_BadCode := b.gl "BadCode" (by decide +kernel)
  have g_enumerate := b.gl "enumerate" (by decide +kernel)
  have g_fits_form := b.gl "fits_form" (by decide +kernel)
  have g_BadInstruction := b.gl "BadInstruction" (by decide +kernel)
  have g_JUMPS := b.gl "JUMPS" (by decide +kernel)
  have g_BadTarget := b.gl "BadTarget" (by decide +kernel)
  have g_max := b.gl "max" (by decide +kernel)
  have g_range := b.gl "range" (by decide +kernel)
  have g_LINES := b.gl "LINES" (by decide +kernel)
  have g_in_range := b.gl "in_range" (by decide +kernel)
  have g_BadLine := b.gl "BadLine" (by decide +kernel)
  have g_is_handler := b.gl "is_handler" (by decide +kernel)
  have g_BadHandler := b.gl "BadHandler" (by decide +kernel)
  have g_LAST := b.gl "LAST" (by decide +kernel)
  have g_FallsOff := b.gl "FallsOff" (by decide +kernel)
  have v0 := fun {pos : Pos} => b.v (pos := pos) 0 "code" (by decide +kernel)
  have v4 := fun {pos : Pos} => b.v (pos := pos) 4 "value" (by decide +kernel)
  have v3 := fun {pos : Pos} => b.v (pos := pos) 3 "index" (by decide +kernel)
  have v5 := fun {pos : Pos} => b.v (pos := pos) 5 "instruction" (by decide +kernel)
  have v1 := fun {pos : Pos} => b.v (pos := pos) 1 "lines" (by decide +kernel)
  have v2 := fun {pos : Pos} => b.v (pos := pos) 2 "handlers" (by decide +kernel)
  have v6 := fun {pos : Pos} => b.v (pos := pos) 6 "handler" (by decide +kernel)
  have t3 := fun {pos : Pos} => b.t (pos := pos) nd 3 "index" (by decide +kernel)
  exact (Ss.cons (St.ite (B.not (B.chain op_le op_le opf_B0 opf_B0 E.int (E.callB cr_len cf_len g_len z_len (by decide +kernel) (A.cons v0 A.nil)) (E.gint g_MOST k_MOST))) (Ss.one (St.raise0 b.calm b.tk x_BadCode g_BadCode)) Ss.nil)
  (Ss.cons (St.for b.po b.calm (I.enum2 g_enumerate z_enumerate v0) (Tg.un b.calm (gns_cons (b.pg nd 3 "index" (by decide +kernel)) (gns_cons (b.pg nd 4 "value" (by decide +kernel)) gns_nil))) (Ss.one (St.ite (B.not (B.tru (E.call c_fits_form b.room b.tk g_fits_form (A.cons v4 A.nil)))) (Ss.one (St.raise1 b.calm b.tk x_BadInstruction b.room (by decide) g_BadInstruction (A.cons v3 A.nil))) Ss.nil)))
  (Ss.cons (St.for b.po b.calm (I.enum2 g_enumerate z_enumerate v0) (Tg.un b.calm (gns_cons (b.pg nd 3 "index" (by decide +kernel)) (gns_cons (b.pg nd 5 "instruction" (by decide +kernel)) gns_nil))) (Ss.one (St.ite (BW.t (BW.and (B.cmp (or_in b.hu65) opf_in (E.ix v5 E.int) (E.gtup g_JUMPS k_JUMPS) (by with_unfolding_all rfl)) (BW.and1 (B.ge (E.ix v5 E.int) (E.callB cr_len cf_len g_len z_len (by decide +kernel) (A.cons v0 A.nil)))))) (Ss.one (St.raise1 b.calm b.tk x_BadTarget b.room (by decide) g_BadTarget (A.cons v3 A.nil))) Ss.nil)))
  (Ss.cons (St.for b.po b.calm (I.r1 g_range z_range (A.cons (E.callB (call_max2 b.calm) cf_ii2 g_max z_max (by decide +kernel) (A.cons (E.callB cr_len cf_len g_len z_len (by decide +kernel) (A.cons v0 A.nil)) (A.cons (E.callB cr_len cf_len g_len z_len (by decide +kernel) (A.cons v1 A.nil)) A.nil))) A.nil)) t3 (Ss.one (St.ite (BW.t (BW.or (B.ge v3 (E.callB cr_len cf_len g_len z_len (by decide +kernel) (A.cons v0 A.nil))) (BW.or (B.ge v3 (E.callB cr_len cf_len g_len z_len (by decide +kernel) (A.cons v1 A.nil))) (BW.or1 (B.not (B.tru (E.call c_in_range b.room b.tk g_in_range (A.cons (E.ix v1 v3) (A.cons E.int (A.cons (E.gint g_LINES k_LINES) A.nil)))))))))) (Ss.one (St.raise1 b.calm b.tk x_BadLine b.room (by decide) g_BadLine (A.cons v3 A.nil))) Ss.nil)))
  (Ss.cons (St.for b.po b.calm (I.enum2 g_enumerate z_enumerate v2) (Tg.un b.calm (gns_cons (b.pg nd 3 "index" (by decide +kernel)) (gns_cons (b.pg nd 6 "handler" (by decide +kernel)) gns_nil))) (Ss.one (St.ite (B.not (B.tru (E.call c_is_handler b.room b.tk g_is_handler (A.cons v6 (A.cons (E.callB cr_len cf_len g_len z_len (by decide +kernel) (A.cons v0 A.nil)) A.nil))))) (Ss.one (St.raise1 b.calm b.tk x_BadHandler b.room (by decide) g_BadHandler (A.cons v3 A.nil))) Ss.nil)))
  (Ss.one (St.ite (B.cmp (or_nin b.hu65) opf_nin (E.ix (E.ix v0 (E.neg un_neg E.int)) E.int) (E.gtup g_LAST k_LAST) (by with_unfolding_all rfl)) (Ss.one (St.raise0 b.calm b.tk x_FallsOff g_FallsOff)) Ss.nil)))))))

theorem sc_depths_of : FnScope ["code", "handlers", "depths", "waiting", "index", "depth", "word", "after", "target", "handler", "wanted"] ["code", "handlers"] (defScope (topS 29)) := ⟨rfl, rfl, rfl, by decide +kernel, rfl, by decide +kernel, by decide +kernel⟩
theorem d_depths_of {P : Program} {w : World} {K : PySem.W.Frag} {mg : Str → Option Value} {base : Heap} (F : DefAt K mg "depths_of" (topS 29) ["code", "handlers"]) (c_moves : Cal P w K mg base 2 "moves" (spP ⟨K, mg⟩ f_moves)) (z_len : mg "len" = none) (p_REMOVED : WMap K w mg "REMOVED" c_REMOVED) (x_BadDepth : ExcC K mg "BadDepth" (He.ga K "BadDepth")) (p_PUSHED : WMap K w mg "PUSHED" c_PUSHED) (z_tuple : mg "tuple" = none) : Cal P w K mg base 3 "depths_of" (spP ⟨K, mg⟩ f_depths_of) := by
  obtain ⟨f, fd, F, hm, hb⟩ := F
  refine Cal.mkP F hm sc_depths_of hb rfl rfl fun X W e1 e2 e3 e4 e5 b => ?_
  subst e1 e2 e3 e4 e5
  have nd := sc_depths_of.nd
  have g_len := b.gl "len" (by decide +kernel)
  have g_REMOVED := b.gl "REMOVED" (by decide +kernel)
  have g_BadDepth := b.gl "BadDepth" (by decide +kernel)
  have g_PUSHED := b.gl "PUSHED" (by decide +kernel)
  have g_moves := b.gl "moves" (by decide +kernel)
  have g_tuple := b.gl "tuple" (by decide +kernel)
  have v0 := fun {pos : Pos} => b.v (pos := pos) 0 "code" (by decide +kernel)
  have v2 := fun {pos : Pos} => b.v (pos := pos) 2 "depths" (by decide +kernel)
  have v3 := fun {pos : Pos} => b.v (pos := pos) 3 "waiting" (by decide +kernel)
  have v4 := fun {pos : Pos} => b.v (pos := pos) 4 "index" (by decide +kernel)
  have v5 := fun {pos : Pos} => b.v (pos := pos) 5 "depth" (by decide +kernel)
  have v6 := fun {pos : Pos} => b.v (pos := pos) 6 "word" (by decide +kernel)
  have v1 := fun {pos : Pos} => b.v (pos := pos) 1 "handlers" (by decide +kernel)
  have v7 := fun {pos : Pos} => b.v (pos := pos) 7 "after" (by decide +kernel)
  have v9 := fun {pos : Pos} => b.v (pos := pos) 9 "handler" (by decide +kernel)
  have v10 := fun {pos : Pos} => b.v (pos := pos) 10 "wanted" (by decide +kernel)
  have v8 := fun {pos : Pos} => b.v (pos := pos) 8 "target" (by decide +kernel)
  exact (Ss.cons (b.set nd 2 "depths" (by decide +kernel) (E.mul true (E.lst false (A.cons E.non A.nil)) (E.callB cr_len cf_len g_len z_len (by decide +kernel) (A.cons v0 A.nil))))
  (Ss.cons (St.asg E.int (Tg.sub v2 E.int set_list set_lst))
  (Ss.cons (b.set nd 3 "waiting" (by decide +kernel) (E.lst true (A.cons E.int A.nil)))
  (Ss.cons (St.whl b.po (B.tru v3) (Ss.cons (b.set nd 4 "index" (by decide +kernel) (E.bm0 PySem.F.plainAttrs_list PySem.F.slot_list_pop PySem.F.type_list_pop mt_pop mtf_pop (fun h => pe_bm0 PySem.F.plainAttrs_list PySem.F.slot_list_pop PySem.F.type_list_pop mt_pop h) v3))
  (Ss.cons (b.set nd 5 "depth" (by decide +kernel) (E.ix v2 v4))
  (Ss.cons (b.set nd 6 "word" (by decide +kernel) (E.ix (E.ix v0 v4) E.int))
  (Ss.cons (St.ite (B.lt v5 (E.wget g_REMOVED p_REMOVED v6 E.int)) (Ss.one (St.raise0 b.calm b.tk x_BadDepth g_BadDepth)) Ss.nil)
  (Ss.cons (b.set nd 7 "after" (by decide +kernel) (E.add false (E.sub v5 (E.wget g_REMOVED p_REMOVED v6 E.int)) (E.wget g_PUSHED p_PUSHED v6 E.int)))
  (Ss.one (St.for b.po b.calm (I.any (E.call c_moves b.room b.tk g_moves (A.cons v0 (A.cons v1 (A.cons v4 A.nil))))) (Tg.un b.calm (gns_cons (b.pg nd 8 "target" (by decide +kernel)) (gns_cons (b.pg nd 9 "handler" (by decide +kernel)) gns_nil))) (Ss.cons (b.set nd 10 "wanted" (by decide +kernel) v7)
  (Ss.cons (St.ite (B.notN v9) (Ss.cons (b.set nd 10 "wanted" (by decide +kernel) (E.ix v9 E.int))
  (Ss.one (St.ite (B.lt v5 v10) (Ss.one (St.raise0 b.calm b.tk x_BadDepth g_BadDepth)) Ss.nil))) Ss.nil)
  (Ss.one (St.ite (B.isN (E.ix v2 v8)) (Ss.cons (St.asg v10 (Tg.sub v2 v8 set_list set_lst))
  (Ss.one (St.expr (E.bm PySem.F.plainAttrs_list PySem.F.slot_list_append PySem.F.type_list_append mt_append mtf_append v3 (A.cons v8 A.nil))))) (Ss.one (St.ite (B.ne b.hu (E.ix v2 v8) v10) (Ss.one (St.raise0 b.calm b.tk x_BadDepth g_BadDepth)) Ss.nil))))))))))))))
  (Ss.one (St.ret (E.callTy call_tuple_of cf_tuple g_tuple z_tuple (by decide +kernel) (A.cons v2 A.nil))))))))

theorem sc_Unit_init : FnScope ["self", "code", "lines", "handlers"] ["self", "code", "lines", "handlers"] (defScope (clsS (topS 30) 0)) := ⟨rfl, rfl, rfl, by decide +kernel, rfl, by decide +kernel, by decide +kernel⟩
theorem d_Unit_init {P : Program} {w : World} {K : PySem.W.Frag} {mg : Str → Option Value} {base : Heap} {dvs : List V} {f : Addr} {fd : FuncData} (F : FunD K "__init__" "Unit.__init__" (defArgs (clsS (topS 30) 0)) (defBody (clsS (topS 30) 0)) (defScope (clsS (topS 30) 0)) dvs [] f fd) (c_check_parts : Cal P w K mg base 3 "check_parts" (spP ⟨K, mg⟩ f_check_parts)) (c_depths_of : Cal P w K mg base 3 "depths_of" (spP ⟨K, mg⟩ f_depths_of)) (a_Unit_code : AttT K mg "Unit" "code") (z_tuple : mg "tuple" = none) (a_Unit_lines : AttT K mg "Unit" "lines") (a_Unit_handlers : AttT K mg "Unit" "handlers") (a_Unit_found_depths : AttT K mg "Unit" "found_depths") : FnOk P w K mg base (L2.CX P w) 4 f fd ["self", "code", "lines", "handlers"] (spI ⟨K, mg⟩ "Unit" i_Unit_init) := by
  refine fnI F sc_Unit_init rfl rfl fun X W e1 e2 e3 e4 e5 b => ?_
  subst e1 e2 e3 e4 e5
  have nd := sc_Unit_init.nd
  have g_check_parts := b.gl "check_parts" (by decide +kernel)
  have g_tuple := b.gl "tuple" (by decide +kernel)
  have g_depths_of := b.gl "depths_of" (by decide +kernel)
  have v1 := fun {pos : Pos} => b.v (pos := pos) 1 "code" (by decide +kernel)
  have v2 := fun {pos : Pos} => b.v (pos := pos) 2 "lines" (by decide +kernel)
  have v3 := fun {pos : Pos} => b.v (pos := pos) 3 "handlers" (by decide +kernel)
  have v0 := fun {pos : Pos} => b.v (pos := pos) 0 "self" (by decide +kernel)
  exact (Ss.cons (St.expr (E.call c_check_parts b.room b.tk g_check_parts (A.cons v1 (A.cons v2 (A.cons v3 A.nil)))))
  (Ss.cons (St.fld (atts_cons a_Unit_code atts_nil) v0 (E.callTy call_tuple_of cf_tuple g_tuple z_tuple (by decide +kernel) (A.cons v1 A.nil)))
  (Ss.cons (St.fld (atts_cons a_Unit_lines atts_nil) v0 (E.callTy call_tuple_of cf_tuple g_tuple z_tuple (by decide +kernel) (A.cons v2 A.nil)))
  (Ss.cons (St.fld (atts_cons a_Unit_handlers atts_nil) v0 (E.callTy call_tuple_of cf_tuple g_tuple z_tuple (by decide +kernel) (A.cons v3 A.nil)))
  (Ss.one (St.fld (atts_cons a_Unit_found_depths atts_nil) v0 (E.call c_depths_of b.room b.tk g_depths_of (A.cons (E.fld (atts_cons a_Unit_code atts_nil) v0) (A.cons (E.fld (atts_cons a_Unit_handlers atts_nil) v0) A.nil)))))))))

theorem sc_exits : FnScope ["unit", "index", "target", "handler"] ["unit", "index"] (defScope (topS 31)) := ⟨rfl, rfl, rfl, by decide +kernel, rfl, by decide +kernel, by decide +kernel⟩
theorem d_exits {P : Program} {w : World} {K : PySem.W.Frag} {mg : Str → Option Value} {base : Heap} (F : DefAt K mg "exits" (topS 31) ["unit", "index"]) (c_moves : Cal P w K mg base 2 "moves" (spP ⟨K, mg⟩ f_moves)) (a_Unit_code : AttT K mg "Unit" "code") (a_Unit_handlers : AttT K mg "Unit" "handlers") (z_sorted : mg "sorted" = none) : Cal P w K mg base 3 "exits" (spP ⟨K, mg⟩ f_exits) := by
  obtain ⟨f, fd, F, hm, hb⟩ := F
  refine Cal.mkP F hm sc_exits hb rfl rfl fun X W e1 e2 e3 e4 e5 b => ?_
  subst e1 e2 e3 e4 e5
  have nd := sc_exits.nd
  have g_moves := b.gl "moves" (by decide +kernel)
  have g_sorted := b.gl "sorted" (by decide +kernel)
  have v0 := fun {pos : Pos} => b.v (pos := pos) 0 "unit" (by decide +kernel)
  have v1 := fun {pos : Pos} => b.v (pos := pos) 1 "index" (by decide +kernel)
  exact (Ss.one (St.ret (E.sortSc (own := [("target", 2), ("handler", 3)]) false b.calm g_sorted z_sorted (b.hN ▸ nd) (I.any (E.call c_moves b.room b.tk g_moves (A.cons (E.fld (atts_cons a_Unit_code atts_nil) v0) (A.cons (E.fld (atts_cons a_Unit_handlers atts_nil) v0) (A.cons v1 A.nil))))) (b.blk (by decide +kernel)) (CG.tup (by decide) rfl) (fun _ _ _ _ _ => pg_tup b.calm (pgs_cons (blk_pg b.hN b.sc nd 2 "target" (by decide +kernel)) (pgs_cons (blk_pg b.hN b.sc nd 3 "handler" (by decide +kernel)) pgs_nil))) (fun _ _ _ _ _ => Ts.nil) (fun _ _ _ _ _ => (b.bk.v 2 "target" (by decide +kernel))))))

theorem sc_law_begin : FnScope ["_law_script"] ["_law_script"] (defScope (topS 33)) := ⟨rfl, rfl, rfl, by decide +kernel, rfl, by decide +kernel, by decide +kernel⟩
theorem d_law_begin {P : Program} {w : World} {K : PySem.W.Frag} {mg : Str → Option Value} {base : Heap} (F : DefAt K mg "_law_begin" (topS 33) ["_law_script"]) (z_list : mg "list" = none) : Cal P w K mg base 1 "_law_begin" (spW ⟨K, mg⟩ f_law_begin) := by
  obtain ⟨f, fd, F, hm, hb⟩ := F
  refine Cal.mkW F hm sc_law_begin hb rfl rfl fun X W e1 e2 e3 e4 e5 b => ?_
  subst e1 e2 e3 e4 e5
  have nd := sc_law_begin.nd
  have g_list := b.gl "list" (by decide +kernel)
  have v0 := fun {pos : Pos} => b.v (pos := pos) 0 "_law_script" (by decide +kernel)
  exact (Ss.one (St.ret (E.lst true (A.cons (E.callTy call_list_of (cf_list (mu := false)) g_list z_list (by decide +kernel) (A.cons v0 A.nil)) (A.cons E.int (A.cons E.int (A.cons E.int A.nil)))))))

theorem sc_law_draw : FnScope ["_law_draws", "_law_many", "_law_found", "_law_cell"] ["_law_draws", "_law_many"] (defScope (topS 34)) := ⟨rfl, rfl, rfl, by decide +kernel, rfl, by decide +kernel, by decide +kernel⟩
theorem d_law_draw {P : Program} {w : World} {K : PySem.W.Frag} {mg : Str → Option Value} {base : Heap} (F : DefAt K mg "_law_draw" (topS 34) ["_law_draws", "_law_many"]) (z_len : mg "len" = none) (z_int : mg "int" = none) : Cal P w K mg base 1 "_law_draw" (spW ⟨K, mg⟩ f_law_draw) := by
  obtain ⟨f, fd, F, hm, hb⟩ := F
  refine Cal.mkW F hm sc_law_draw hb rfl rfl fun X W e1 e2 e3 e4 e5 b => ?_
  subst e1 e2 e3 e4 e5
  have nd := sc_law_draw.nd
  have g_len := b.gl "len" (by decide +kernel)
  have g_int := b.gl "int" (by decide +kernel)
  have v0 := fun {pos : Pos} => b.v (pos := pos) 0 "_law_draws" (by decide +kernel)
  have v3 := fun {pos : Pos} => b.v (pos := pos) 3 "_law_cell" (by decide +kernel)
  have v1 := fun {pos : Pos} => b.v (pos := pos) 1 "_law_many" (by decide +kernel)
  have v2 := fun {pos : Pos} => b.v (pos := pos) 2 "_law_found" (by decide +kernel)
  exact (Ss.cons (St.ite (B.eq b.hu (E.ix v0 E.int) E.int) (Ss.one (St.ite (B.lt (E.ix v0 E.int) (E.callB cr_len cf_len g_len z_len (by decide +kernel) (A.cons (E.ix v0 E.int) A.nil))) (Ss.cons (b.set nd 3 "_law_cell" (by decide +kernel) (E.ix (E.ix v0 E.int) (E.ix v0 E.int)))
  (Ss.cons (St.asg (E.add false (E.ix v0 E.int) E.int) (Tg.sub v0 E.int set_list set_lst))
  (Ss.one (St.ite (B.ge v3 (E.pow E.int E.int)) (Ss.one (St.asg v3 (Tg.sub v0 E.int set_list set_lst))) (Ss.one (St.asg (E.mod (E.callTy call_int1 cf_int1 g_int z_int (by decide +kernel) (A.cons (E.add false (E.add false (E.mul false (E.ix v0 E.int) E.int) (E.mul false v3 E.int)) E.int) A.nil)) E.int) (Tg.sub v0 E.int set_list set_lst))))))) (Ss.one (St.asg (E.mod (E.callTy call_int1 cf_int1 g_int z_int (by decide +kernel) (A.cons (E.add false (E.mul false (E.ix v0 E.int) E.int) E.int) A.nil)) E.int) (Tg.sub v0 E.int set_list set_lst))))) Ss.nil)
  (Ss.cons (St.ite (B.gt (E.ix v0 E.int) E.int) (Ss.cons (b.set nd 2 "_law_found" (by decide +kernel) (E.mod (E.callTy call_int1 cf_int1 g_int z_int (by decide +kernel) (A.cons (E.ix v0 E.int) A.nil)) v1))
  (Ss.cons (St.asg (E.fdiv (E.ix v0 E.int) v1) (Tg.sub v0 E.int set_list set_lst))
  (Ss.one (St.ret v2)))) Ss.nil)
  (Ss.one (St.ret (E.mod (E.mod (E.callTy call_int1 cf_int1 g_int z_int (by decide +kernel) (A.cons (E.mul false (E.ix v0 E.int) E.int) A.nil)) E.int) v1)))))

theorem sc_law_number : FnScope ["_law_draws", "_law_at"] ["_law_draws"] (defScope (topS 36)) := ⟨rfl, rfl, rfl, by decide +kernel, rfl, by decide +kernel, by decide +kernel⟩
theorem d_law_number {P : Program} {w : World} {K : PySem.W.Frag} {mg : Str → Option Value} {base : Heap} (F : DefAt K mg "_law_number" (topS 36) ["_law_draws"]) (c_law_draw : Cal P w K mg base 1 "_law_draw" (spW ⟨K, mg⟩ f_law_draw)) : Cal P w K mg base 2 "_law_number" (spW ⟨K, mg⟩ f_law_number) := by
  obtain ⟨f, fd, F, hm, hb⟩ := F
  refine Cal.mkW F hm sc_law_number hb rfl rfl fun X W e1 e2 e3 e4 e5 b => ?_
  subst e1 e2 e3 e4 e5
  have nd := sc_law_number.nd
  have g_law_draw := b.gl "_law_draw" (by decide +kernel)
  have v0 := fun {pos : Pos} => b.v (pos := pos) 0 "_law_draws" (by decide +kernel)
  have v1 := fun {pos : Pos} => b.v (pos := pos) 1 "_law_at" (by decide +kernel)
  exact (Ss.cons (b.set nd 1 "_law_at" (by decide +kernel) (E.callW c_law_draw b.room b.tk g_law_draw (A.cons v0 (A.cons E.int A.nil))))
  (Ss.cons (St.ite (B.eq b.hu v1 E.int) (Ss.one (St.ret (E.ix (E.lst false (A.cons E.int (A.cons E.int (A.cons (E.neg un_neg E.int) (A.cons (E.pow E.int E.int) (A.cons (E.neg un_neg (E.pow E.int E.int)) (A.cons (E.sub (E.pow E.int E.int) E.int) A.nil))))))) (E.callW c_law_draw b.room b.tk g_law_draw (A.cons v0 (A.cons E.int A.nil)))))) Ss.nil)
  (Ss.cons (St.ite (B.eq b.hu v1 E.int) (Ss.one (St.ret (E.sub (E.callW c_law_draw b.room b.tk g_law_draw (A.cons v0 (A.cons (E.pow E.int E.int) A.nil))) (E.mul false E.int (E.pow E.int E.int))))) Ss.nil)
  (Ss.one (St.ret (E.sub (E.callW c_law_draw b.room b.tk g_law_draw (A.cons v0 (A.cons E.int A.nil))) E.int))))))

theorem sc_law_line : FnScope ["_law_draws"] ["_law_draws"] (defScope (topS 37)) := ⟨rfl, rfl, rfl, by decide +kernel, rfl, by decide +kernel, by decide +kernel⟩
theorem d_law_line {P : Program} {w : World} {K : PySem.W.Frag} {mg : Str → Option Value} {base : Heap} (F : DefAt K mg "_law_line" (topS 37) ["_law_draws"]) (c_law_draw : Cal P w K mg base 1 "_law_draw" (spW ⟨K, mg⟩ f_law_draw)) : Cal P w K mg base 2 "_law_line" (spW ⟨K, mg⟩ f_law_line) := by
  obtain ⟨f, fd, F, hm, hb⟩ := F
  refine Cal.mkW F hm sc_law_line hb rfl rfl fun X W e1 e2 e3 e4 e5 b => ?_
  subst e1 e2 e3 e4 e5
  have nd := sc_law_line.nd
  have g_law_draw := b.gl "_law_draw" (by decide +kernel)
  have v0 := fun {pos : Pos} => b.v (pos := pos) 0 "_law_draws" (by decide +kernel)
  exact (Ss.one (St.ret (E.ix (E.lst false (A.cons E.int (A.cons E.int (A.cons E.int (A.cons E.int (A.cons E.int (A.cons E.int (A.cons (E.pow E.int E.int) A.nil)))))))) (E.callW c_law_draw b.room b.tk g_law_draw (A.cons v0 (A.cons E.int A.nil))))))

theorem sc_law_value : FnScope ["_law_draws", "_law_rows", "_law_line_here", "_law_at", "_law_word_here"] ["_law_draws", "_law_rows", "_law_line_here"] (defScope (topS 38)) := ⟨rfl, rfl, rfl, by decide +kernel, rfl, by decide +kernel, by decide +kernel⟩
theorem d_law_value {P : Program} {w : World} {K : PySem.W.Frag} {mg : Str → Option Value} {base : Heap} (F : DefAt K mg "_law_value" (topS 38) ["_law_draws", "_law_rows", "_law_line_here"]) (c_law_draw : Cal P w K mg base 1 "_law_draw" (spW ⟨K, mg⟩ f_law_draw)) (c_law_number : Cal P w K mg base 2 "_law_number" (spW ⟨K, mg⟩ f_law_number)) : Cal P w K mg base 3 "_law_value" (spW ⟨K, mg⟩ f_law_value) := by
  obtain ⟨f, fd, F, hm, hb⟩ := F
  refine Cal.mkW F hm sc_law_value hb rfl rfl fun X W e1 e2 e3 e4 e5 b => ?_
  subst e1 e2 e3 e4 e5
  have nd := sc_law_value.nd
  have g_law_draw := b.gl "_law_draw" (by decide +kernel)
  have g_law_number := b.gl "_law_number" (by decide +kernel)
  have v0 := fun {pos : Pos} => b.v (pos := pos) 0 "_law_draws" (by decide +kernel)
  have v3 := fun {pos : Pos} => b.v (pos := pos) 3 "_law_at" (by decide +kernel)
  have v1 := fun {pos : Pos} => b.v (pos := pos) 1 "_law_rows" (by decide +kernel)
  have v2 := fun {pos : Pos} => b.v (pos := pos) 2 "_law_line_here" (by decide +kernel)
  have v4 := fun {pos : Pos} => b.v (pos := pos) 4 "_law_word_here" (by decide +kernel)
  exact (Ss.cons (b.set nd 3 "_law_at" (by decide +kernel) (E.callW c_law_draw b.room b.tk g_law_draw (A.cons v0 (A.cons E.int A.nil))))
  (Ss.cons (St.ite (B.le v3 E.int) (Ss.one (St.expr (E.bm PySem.F.plainAttrs_list PySem.F.slot_list_append PySem.F.type_list_append mt_append mtf_append v1 (A.cons (E.lst false (A.cons (E.tup (A.cons E.str (A.cons (E.callW c_law_number b.room b.tk g_law_number (A.cons v0 A.nil)) A.nil))) (A.cons v2 A.nil))) A.nil)))) (Ss.one (St.ite (B.le v3 E.int) (Ss.one (St.expr (E.bm PySem.F.plainAttrs_list PySem.F.slot_list_append PySem.F.type_list_append mt_append mtf_append v1 (A.cons (E.lst false (A.cons (E.tup (A.cons E.str (A.cons (E.ix (E.lst false (A.cons E.str (A.cons E.str (A.cons E.str A.nil)))) (E.callW c_law_draw b.room b.tk g_law_draw (A.cons v0 (A.cons E.int A.nil)))) A.nil))) (A.cons v2 A.nil))) A.nil)))) (Ss.cons (St.expr (E.bm PySem.F.plainAttrs_list PySem.F.slot_list_append PySem.F.type_list_append mt_append mtf_append v1 (A.cons (E.lst false (A.cons (E.tup (A.cons E.str (A.cons (E.callW c_law_number b.room b.tk g_law_number (A.cons v0 A.nil)) A.nil))) (A.cons v2 A.nil))) A.nil)))
  (Ss.cons (St.expr (E.bm PySem.F.plainAttrs_list PySem.F.slot_list_append PySem.F.type_list_append mt_append mtf_append v1 (A.cons (E.lst false (A.cons (E.tup (A.cons E.str (A.cons (E.callW c_law_draw b.room b.tk g_law_draw (A.cons v0 (A.cons E.int A.nil))) A.nil))) (A.cons (E.ix (E.lst false (A.cons v2 (A.cons v2 (A.cons E.int A.nil)))) (E.callW c_law_draw b.room b.tk g_law_draw (A.cons v0 (A.cons E.int A.nil)))) A.nil))) A.nil)))
  (Ss.cons (b.set nd 4 "_law_word_here" (by decide +kernel) (E.ix (E.lst false (A.cons E.str (A.cons E.str (A.cons E.str (A.cons E.str A.nil))))) (E.callW c_law_draw b.room b.tk g_law_draw (A.cons v0 (A.cons E.int A.nil)))))
  (Ss.one (St.expr (E.bm PySem.F.plainAttrs_list PySem.F.slot_list_append PySem.F.type_list_append mt_append mtf_append v1 (A.cons (E.lst false (A.cons (E.tup (A.cons v4 A.nil)) (A.cons (E.ix (E.lst false (A.cons v2 (A.cons v2 (A.cons E.int (A.cons E.int A.nil))))) (E.callW c_law_draw b.room b.tk g_law_draw (A.cons v0 (A.cons E.int A.nil)))) A.nil))) A.nil))))))))))
  (Ss.cons (St.ite (B.eq b.hu (E.callW c_law_draw b.room b.tk g_law_draw (A.cons v0 (A.cons E.int A.nil))) E.int) (Ss.cons (St.expr (E.bm PySem.F.plainAttrs_list PySem.F.slot_list_append PySem.F.type_list_append mt_append mtf_append v1 (A.cons (E.lst false (A.cons (E.tup (A.cons E.str (A.cons (E.ix (E.lst false (A.cons E.str (A.cons E.str (A.cons E.str A.nil)))) (E.callW c_law_draw b.room b.tk g_law_draw (A.cons v0 (A.cons E.int A.nil)))) A.nil))) (A.cons v2 A.nil))) A.nil)))
  (Ss.one (St.expr (E.bm PySem.F.plainAttrs_list PySem.F.slot_list_append PySem.F.type_list_append mt_append mtf_append v1 (A.cons (E.lst false (A.cons (E.tup (A.cons (E.ix (E.lst false (A.cons E.str (A.cons E.str (A.cons E.str (A.cons E.str A.nil))))) (E.callW c_law_draw b.room b.tk g_law_draw (A.cons v0 (A.cons E.int A.nil)))) A.nil)) (A.cons v2 A.nil))) A.nil))))) Ss.nil)
  (Ss.one (St.ite (B.eq b.hu (E.callW c_law_draw b.room b.tk g_law_draw (A.cons v0 (A.cons E.int A.nil))) E.int) (Ss.one (St.expr (E.bm PySem.F.plainAttrs_list PySem.F.slot_list_append PySem.F.type_list_append mt_append mtf_append v1 (A.cons (E.lst false (A.cons (E.tup (A.cons E.str A.nil)) (A.cons v2 A.nil))) A.nil)))) Ss.nil)))))

theorem sc_law_plain : FnScope ["_law_draws", "_law_rows", "_law_line_here", "_law_at"] ["_law_draws", "_law_rows"] (defScope (topS 39)) := ⟨rfl, rfl, rfl, by decide +kernel, rfl, by decide +kernel, by decide +kernel⟩
theorem d_law_plain {P : Program} {w : World} {K : PySem.W.Frag} {mg : Str → Option Value} {base : Heap} (F : DefAt K mg "_law_plain" (topS 39) ["_law_draws", "_law_rows"]) (c_law_line : Cal P w K mg base 2 "_law_line" (spW ⟨K, mg⟩ f_law_line)) (c_law_draw : Cal P w K mg base 1 "_law_draw" (spW ⟨K, mg⟩ f_law_draw)) (c_law_value : Cal P w K mg base 3 "_law_value" (spW ⟨K, mg⟩ f_law_value)) (z_len : mg "len" = none) : Cal P w K mg base 4 "_law_plain" (spW ⟨K, mg⟩ f_law_plain) := by
  obtain ⟨f, fd, F, hm, hb⟩ := F
  refine Cal.mkW F hm sc_law_plain hb rfl rfl fun X W e1 e2 e3 e4 e5 b => ?_
  subst e1 e2 e3 e4 e5
  have nd := sc_law_plain.nd
  have g_law_line := b.gl "_law_line" (by decide +kernel)
  have g_law_draw := b.gl "_law_draw" (by decide +kernel)
  have g_law_value := b.gl "_law_value" (by decide +kernel)
  have g_len := b.gl "len" (by decide +kernel)
  have v0 := fun {pos : Pos} => b.v (pos := pos) 0 "_law_draws" (by decide +kernel)
  have v3 := fun {pos : Pos} => b.v (pos := pos) 3 "_law_at" (by decide +kernel)
  have v1 := fun {pos : Pos} => b.v (pos := pos) 1 "_law_rows" (by decide +kernel)
  have v2 := fun {pos : Pos} => b.v (pos := pos) 2 "_law_line_here" (by decide +kernel)
  exact (Ss.cons (b.set nd 2 "_law_line_here" (by decide +kernel) (E.callW c_law_line b.room b.tk g_law_line (A.cons v0 A.nil)))
  (Ss.cons (b.set nd 3 "_law_at" (by decide +kernel) (E.callW c_law_draw b.room b.tk g_law_draw (A.cons v0 (A.cons E.int A.nil))))
  (Ss.one (St.ite (B.le v3 E.int) (Ss.cons (St.expr (E.callW c_law_value b.room b.tk g_law_value (A.cons v0 (A.cons v1 (A.cons v2 A.nil)))))
  (Ss.one (St.expr (E.bm PySem.F.plainAttrs_list PySem.F.slot_list_append PySem.F.type_list_append mt_append mtf_append v1 (A.cons (E.lst false (A.cons (E.tup (A.cons E.str A.nil)) (A.cons v2 A.nil))) A.nil))))) (Ss.one (St.ite (B.eq b.hu v3 E.int) (Ss.cons (St.expr (E.callW c_law_value b.room b.tk g_law_value (A.cons v0 (A.cons v1 (A.cons v2 A.nil)))))
  (Ss.one (St.expr (E.bm PySem.F.plainAttrs_list PySem.F.slot_list_append PySem.F.type_list_append mt_append mtf_append v1 (A.cons (E.lst false (A.cons (E.tup (A.cons E.str (A.cons (E.ix (E.lst false (A.cons E.str (A.cons E.str (A.cons E.str A.nil)))) (E.callW c_law_draw b.room b.tk g_law_draw (A.cons v0 (A.cons E.int A.nil)))) A.nil))) (A.cons v2 A.nil))) A.nil))))) (Ss.one (St.ite (B.eq b.hu v3 E.int) (Ss.one (St.expr (E.bm PySem.F.plainAttrs_list PySem.F.slot_list_append PySem.F.type_list_append mt_append mtf_append v1 (A.cons (E.lst false (A.cons (E.tup (A.cons E.str A.nil)) (A.cons v2 A.nil))) A.nil)))) (Ss.one (St.ite (B.eq b.hu v3 E.int) (Ss.cons (St.expr (E.callW c_law_value b.room b.tk g_law_value (A.cons v0 (A.cons v1 (A.cons v2 A.nil)))))
  (Ss.one (St.expr (E.bm PySem.F.plainAttrs_list PySem.F.slot_list_append PySem.F.type_list_append mt_append mtf_append v1 (A.cons (E.lst false (A.cons (E.tup (A.cons E.str A.nil)) (A.cons (E.ix (E.lst false (A.cons v2 (A.cons E.int A.nil))) (E.callW c_law_draw b.room b.tk g_law_draw (A.cons v0 (A.cons E.int A.nil)))) A.nil))) A.nil))))) (Ss.one (St.ite (B.eq b.hu v3 E.int) (Ss.cons (St.expr (E.callW c_law_value b.room b.tk g_law_value (A.cons v0 (A.cons v1 (A.cons v2 A.nil)))))
  (Ss.cons (St.expr (E.bm PySem.F.plainAttrs_list PySem.F.slot_list_append PySem.F.type_list_append mt_append mtf_append v1 (A.cons (E.lst false (A.cons (E.tup (A.cons E.str A.nil)) (A.cons v2 A.nil))) A.nil)))
  (Ss.cons (St.expr (E.bm PySem.F.plainAttrs_list PySem.F.slot_list_append PySem.F.type_list_append mt_append mtf_append v1 (A.cons (E.lst false (A.cons (E.tup (A.cons E.str A.nil)) (A.cons v2 A.nil))) A.nil)))
  (Ss.one (St.expr (E.bm PySem.F.plainAttrs_list PySem.F.slot_list_append PySem.F.type_list_append mt_append mtf_append v1 (A.cons (E.lst false (A.cons (E.tup (A.cons E.str A.nil)) (A.cons v2 A.nil))) A.nil))))))) (Ss.one (St.ite (B.eq b.hu v3 E.int) (Ss.cons (St.expr (E.bm PySem.F.plainAttrs_list PySem.F.slot_list_append PySem.F.type_list_append mt_append mtf_append v1 (A.cons (E.lst false (A.cons (E.tup (A.cons E.str A.nil)) (A.cons v2 A.nil))) A.nil)))
  (Ss.one (St.expr (E.bm PySem.F.plainAttrs_list PySem.F.slot_list_append PySem.F.type_list_append mt_append mtf_append v1 (A.cons (E.lst false (A.cons (E.tup (A.cons E.str A.nil)) (A.cons (E.ix (E.lst false (A.cons E.int (A.cons v2 A.nil))) (E.callW c_law_draw b.room b.tk g_law_draw (A.cons v0 (A.cons E.int A.nil)))) A.nil))) A.nil))))) (Ss.one (St.ite (BW.t (BW.and (B.eq b.hu v3 E.int) (BW.and1 (B.eq b.hu (E.callW c_law_draw b.room b.tk g_law_draw (A.cons v0 (A.cons E.int A.nil))) E.int)))) (Ss.one (St.expr (E.bm PySem.F.plainAttrs_list PySem.F.slot_list_append PySem.F.type_list_append mt_append mtf_append v1 (A.cons (E.lst false (A.cons (E.tup (A.cons E.str (A.cons (E.ix (E.lst false (A.cons E.str (A.cons E.str (A.cons E.str A.nil)))) (E.callW c_law_draw b.room b.tk g_law_draw (A.cons v0 (A.cons E.int A.nil)))) A.nil))) (A.cons v2 A.nil))) A.nil)))) (Ss.one (St.expr (E.bm PySem.F.plainAttrs_list PySem.F.slot_list_append PySem.F.type_list_append mt_append mtf_append v1 (A.cons (E.lst false (A.cons (E.tup (A.cons E.str (A.cons (E.add false (E.callB cr_len cf_len g_len z_len (by decide +kernel) (A.cons v1 A.nil)) E.int) A.nil))) (A.cons (E.ix (E.lst false (A.cons E.int (A.cons v2 A.nil))) (E.callW c_law_draw b.room b.tk g_law_draw (A.cons v0 (A.cons E.int A.nil)))) A.nil))) A.nil))))))))))))))))))))

theorem sc_law_choice : FnScope ["_law_draws", "_law_rows", "_law_handlers", "_law_deep", "_law_base", "_law_line_here", "_law_first", "_law_second"] ["_law_draws", "_law_rows", "_law_handlers", "_law_deep", "_law_base"] (defScope (topS 40)) := ⟨rfl, rfl, rfl, by decide +kernel, rfl, by decide +kernel, by decide +kernel⟩
theorem b_law_choice {self_law_body : List PV → Sto → R PV} (n : Nat) {P : Program} {w : World} {K : PySem.W.Frag} {mg : Str → Option Value} {base : Heap} (F : DefAt K mg "_law_choice" (topS 40) ["_law_draws", "_law_rows", "_law_handlers", "_law_deep", "_law_base"]) (c_law_line : Cal P w K mg base 2 "_law_line" (spW ⟨K, mg⟩ f_law_line)) (c_law_value : Cal P w K mg base 3 "_law_value" (spW ⟨K, mg⟩ f_law_value)) (c_law_draw : Cal P w K mg base 1 "_law_draw" (spW ⟨K, mg⟩ f_law_draw)) (z_len : mg "len" = none) (c_law_body : Cal P w K mg base (4 + n) "_law_body" (spW ⟨K, mg⟩ self_law_body)) : Cal P w K mg base (4 + n + 1) "_law_choice" (spW ⟨K, mg⟩ (runW 5 8 (body_law_choice self_law_body))) := by
  obtain ⟨f, fd, F, hm, hb⟩ := F
  refine Cal.mkW F hm sc_law_choice hb rfl rfl fun X W e1 e2 e3 e4 e5 b => ?_
  subst e1 e2 e3 e4 e5
  have nd := sc_law_choice.nd
  have g_law_line := b.gl "_law_line" (by decide +kernel)
  have g_law_value := b.gl "_law_value" (by decide +kernel)
  have g_len := b.gl "len" (by decide +kernel)
  have g_law_body := b.gl "_law_body" (by decide +kernel)
  have g_law_draw := b.gl "_law_draw" (by decide +kernel)
  have v0 := fun {pos : Pos} => b.v (pos := pos) 0 "_law_draws" (by decide +kernel)
  have v1 := fun {pos : Pos} => b.v (pos := pos) 1 "_law_rows" (by decide +kernel)
  have v5 := fun {pos : Pos} => b.v (pos := pos) 5 "_law_line_here" (by decide +kernel)
  have v2 := fun {pos : Pos} => b.v (pos := pos) 2 "_law_handlers" (by decide +kernel)
  have v3 := fun {pos : Pos} => b.v (pos := pos) 3 "_law_deep" (by decide +kernel)
  have v4 := fun {pos : Pos} => b.v (pos := pos) 4 "_law_base" (by decide +kernel)
  have v6 := fun {pos : Pos} => b.v (pos := pos) 6 "_law_first" (by decide +kernel)
  have v7 := fun {pos : Pos} => b.v (pos := pos) 7 "_law_second" (by decide +kernel)
  exact (Ss.cons (b.set nd 5 "_law_line_here" (by decide +kernel) (E.callW c_law_line b.room b.tk g_law_line (A.cons v0 A.nil) (hk := by omega)))
  (Ss.cons (St.expr (E.callW c_law_value b.room b.tk g_law_value (A.cons v0 (A.cons v1 (A.cons v5 A.nil))) (hk := by omega)))
  (Ss.cons (St.expr (E.bm PySem.F.plainAttrs_list PySem.F.slot_list_append PySem.F.type_list_append mt_append mtf_append v1 (A.cons (E.lst true (A.cons (E.tup (A.cons E.str (A.cons E.int A.nil))) (A.cons v5 A.nil))) A.nil)))
  (Ss.cons (b.set nd 6 "_law_first" (by decide +kernel) (E.sub (E.callB cr_len cf_len g_len z_len (by decide +kernel) (A.cons v1 A.nil)) E.int))
  (Ss.cons (St.expr (E.callW c_law_body b.room b.tk g_law_body (A.cons v0 (A.cons v1 (A.cons v2 (A.cons v3 (A.cons v4 A.nil))))) (hk := by omega)))
  (Ss.cons (St.expr (E.bm PySem.F.plainAttrs_list PySem.F.slot_list_append PySem.F.type_list_append mt_append mtf_append v1 (A.cons (E.lst true (A.cons (E.tup (A.cons E.str (A.cons E.int A.nil))) (A.cons (E.ix (E.lst false (A.cons E.int (A.cons v5 A.nil))) (E.callW c_law_draw b.room b.tk g_law_draw (A.cons v0 (A.cons E.int A.nil)) (hk := by omega))) A.nil))) A.nil)))
  (Ss.cons (b.set nd 7 "_law_second" (by decide +kernel) (E.sub (E.callB cr_len cf_len g_len z_len (by decide +kernel) (A.cons v1 A.nil)) E.int))
  (Ss.cons (St.asg (E.tup (A.cons E.str (A.cons (E.callB cr_len cf_len g_len z_len (by decide +kernel) (A.cons v1 A.nil)) A.nil))) (Tg.sub (E.ix v1 v6) E.int set_list set_lst))
  (Ss.cons (St.expr (E.callW c_law_body b.room b.tk g_law_body (A.cons v0 (A.cons v1 (A.cons v2 (A.cons v3 (A.cons v4 A.nil))))) (hk := by omega)))
  (Ss.one (St.asg (E.tup (A.cons E.str (A.cons (E.callB cr_len cf_len g_len z_len (by decide +kernel) (A.cons v1 A.nil)) A.nil))) (Tg.sub (E.ix v1 v7) E.int set_list set_lst))))))))))))

theorem sc_law_loop : FnScope ["_law_draws", "_law_rows", "_law_handlers", "_law_deep", "_law_base", "_law_line_here", "_law_start", "_law_at"] ["_law_draws", "_law_rows", "_law_handlers", "_law_deep", "_law_base"] (defScope (topS 41)) := ⟨rfl, rfl, rfl, by decide +kernel, rfl, by decide +kernel, by decide +kernel⟩
theorem b_law_loop {self_law_body : List PV → Sto → R PV} (n : Nat) {P : Program} {w : World} {K : PySem.W.Frag} {mg : Str → Option Value} {base : Heap} (F : DefAt K mg "_law_loop" (topS 41) ["_law_draws", "_law_rows", "_law_handlers", "_law_deep", "_law_base"]) (c_law_line : Cal P w K mg base 2 "_law_line" (spW ⟨K, mg⟩ f_law_line)) (c_law_draw : Cal P w K mg base 1 "_law_draw" (spW ⟨K, mg⟩ f_law_draw)) (z_len : mg "len" = none) (c_law_body : Cal P w K mg base (4 + n) "_law_body" (spW ⟨K, mg⟩ self_law_body)) : Cal P w K mg base (4 + n + 1) "_law_loop" (spW ⟨K, mg⟩ (runW 5 8 (body_law_loop self_law_body))) := by
  obtain ⟨f, fd, F, hm, hb⟩ := F
  refine Cal.mkW F hm sc_law_loop hb rfl rfl fun X W e1 e2 e3 e4 e5 b => ?_
  subst e1 e2 e3 e4 e5
  have nd := sc_law_loop.nd
  have g_law_line := b.gl "_law_line" (by decide +kernel)
  have g_len := b.gl "len" (by decide +kernel)
  have g_law_body := b.gl "_law_body" (by decide +kernel)
  have g_law_draw := b.gl "_law_draw" (by decide +kernel)
  have v0 := fun {pos : Pos} => b.v (pos := pos) 0 "_law_draws" (by decide +kernel)
  have v1 := fun {pos : Pos} => b.v (pos := pos) 1 "_law_rows" (by decide +kernel)
  have v2 := fun {pos : Pos} => b.v (pos := pos) 2 "_law_handlers" (by decide +kernel)
  have v3 := fun {pos : Pos} => b.v (pos := pos) 3 "_law_deep" (by decide +kernel)
  have v4 := fun {pos : Pos} => b.v (pos := pos) 4 "_law_base" (by decide +kernel)
  have v7 := fun {pos : Pos} => b.v (pos := pos) 7 "_law_at" (by decide +kernel)
  have v6 := fun {pos : Pos} => b.v (pos := pos) 6 "_law_start" (by decide +kernel)
  have v5 := fun {pos : Pos} => b.v (pos := pos) 5 "_law_line_here" (by decide +kernel)
  exact (Ss.cons (b.set nd 5 "_law_line_here" (by decide +kernel) (E.callW c_law_line b.room b.tk g_law_line (A.cons v0 A.nil) (hk := by omega)))
  (Ss.cons (b.set nd 6 "_law_start" (by decide +kernel) (E.callB cr_len cf_len g_len z_len (by decide +kernel) (A.cons v1 A.nil)))
  (Ss.cons (St.expr (E.callW c_law_body b.room b.tk g_law_body (A.cons v0 (A.cons v1 (A.cons v2 (A.cons v3 (A.cons v4 A.nil))))) (hk := by omega)))
  (Ss.cons (b.set nd 7 "_law_at" (by decide +kernel) (E.callW c_law_draw b.room b.tk g_law_draw (A.cons v0 (A.cons E.int A.nil)) (hk := by omega)))
  (Ss.one (St.ite (B.eq b.hu v7 E.int) (Ss.one (St.expr (E.bm PySem.F.plainAttrs_list PySem.F.slot_list_append PySem.F.type_list_append mt_append mtf_append v1 (A.cons (E.lst false (A.cons (E.tup (A.cons E.str (A.cons v6 A.nil))) (A.cons (E.ix (E.lst false (A.cons E.int (A.cons v5 A.nil))) (E.callW c_law_draw b.room b.tk g_law_draw (A.cons v0 (A.cons E.int A.nil)) (hk := by omega))) A.nil))) A.nil)))) (Ss.cons (St.expr (E.bm PySem.F.plainAttrs_list PySem.F.slot_list_append PySem.F.type_list_append mt_append mtf_append v1 (A.cons (E.lst false (A.cons (E.tup (A.cons E.str (A.cons E.str A.nil))) (A.cons v5 A.nil))) A.nil)))
  (Ss.cons (St.expr (E.bm PySem.F.plainAttrs_list PySem.F.slot_list_append PySem.F.type_list_append mt_append mtf_append v1 (A.cons (E.lst false (A.cons (E.tup (A.cons E.str (A.cons E.int A.nil))) (A.cons v5 A.nil))) A.nil)))
  (Ss.cons (St.expr (E.bm PySem.F.plainAttrs_list PySem.F.slot_list_append PySem.F.type_list_append mt_append mtf_append v1 (A.cons (E.lst false (A.cons (E.tup (A.cons E.str A.nil)) (A.cons v5 A.nil))) A.nil)))
  (Ss.cons (St.expr (E.bm PySem.F.plainAttrs_list PySem.F.slot_list_append PySem.F.type_list_append mt_append mtf_append v1 (A.cons (E.lst false (A.cons (E.tup (A.cons E.str A.nil)) (A.cons v5 A.nil))) A.nil)))
  (Ss.cons (St.expr (E.bm PySem.F.plainAttrs_list PySem.F.slot_list_append PySem.F.type_list_append mt_append mtf_append v1 (A.cons (E.lst false (A.cons (E.tup (A.cons E.str (A.cons E.str A.nil))) (A.cons v5 A.nil))) A.nil)))
  (Ss.cons (St.expr (E.bm PySem.F.plainAttrs_list PySem.F.slot_list_append PySem.F.type_list_append mt_append mtf_append v1 (A.cons (E.lst false (A.cons (E.tup (A.cons E.str (A.cons E.int A.nil))) (A.cons v5 A.nil))) A.nil)))
  (Ss.cons (St.expr (E.bm PySem.F.plainAttrs_list PySem.F.slot_list_append PySem.F.type_list_append mt_append mtf_append v1 (A.cons (E.lst false (A.cons (E.tup (A.cons E.str A.nil)) (A.cons v5 A.nil))) A.nil)))
  (Ss.cons (St.expr (E.bm PySem.F.plainAttrs_list PySem.F.slot_list_append PySem.F.type_list_append mt_append mtf_append v1 (A.cons (E.lst false (A.cons (E.tup (A.cons E.str A.nil)) (A.cons v5 A.nil))) A.nil)))
  (Ss.one (St.expr (E.bm PySem.F.plainAttrs_list PySem.F.slot_list_append PySem.F.type_list_append mt_append mtf_append v1 (A.cons (E.lst false (A.cons (E.tup (A.cons E.str (A.cons v6 A.nil))) (A.cons v5 A.nil))) A.nil))))))))))))))))))

theorem sc_law_guard : FnScope ["_law_draws", "_law_rows", "_law_handlers", "_law_deep", "_law_base", "_law_start", "_law_end", "_law_place", "_law_kind", "_law_target"] ["_law_draws", "_law_rows", "_law_handlers", "_law_deep", "_law_base"] (defScope (topS 42)) := ⟨rfl, rfl, rfl, by decide +kernel, rfl, by decide +kernel, by decide +kernel⟩
theorem b_law_guard {self_law_body : List PV → Sto → R PV} (n : Nat) {P : Program} {w : World} {K : PySem.W.Frag} {mg : Str → Option Value} {base : Heap} (F : DefAt K mg "_law_guard" (topS 42) ["_law_draws", "_law_rows", "_law_handlers", "_law_deep", "_law_base"]) (c_law_plain : Cal P w K mg base 4 "_law_plain" (spW ⟨K, mg⟩ f_law_plain)) (c_law_draw : Cal P w K mg base 1 "_law_draw" (spW ⟨K, mg⟩ f_law_draw)) (c_law_line : Cal P w K mg base 2 "_law_line" (spW ⟨K, mg⟩ f_law_line)) (z_len : mg "len" = none) (c_law_body : Cal P w K mg base (4 + n) "_law_body" (spW ⟨K, mg⟩ self_law_body)) : Cal P w K mg base (4 + n + 1) "_law_guard" (spW ⟨K, mg⟩ (runW 5 10 (body_law_guard self_law_body))) := by
  obtain ⟨f, fd, F, hm, hb⟩ := F
  refine Cal.mkW F hm sc_law_guard hb rfl rfl fun X W e1 e2 e3 e4 e5 b => ?_
  subst e1 e2 e3 e4 e5
  have nd := sc_law_guard.nd
  have g_len := b.gl "len" (by decide +kernel)
  have g_law_body := b.gl "_law_body" (by decide +kernel)
  have g_law_line := b.gl "_law_line" (by decide +kernel)
  have g_law_draw := b.gl "_law_draw" (by decide +kernel)
  have g_law_plain := b.gl "_law_plain" (by decide +kernel)
  have v1 := fun {pos : Pos} => b.v (pos := pos) 1 "_law_rows" (by decide +kernel)
  have v0 := fun {pos : Pos} => b.v (pos := pos) 0 "_law_draws" (by decide +kernel)
  have v2 := fun {pos : Pos} => b.v (pos := pos) 2 "_law_handlers" (by decide +kernel)
  have v3 := fun {pos : Pos} => b.v (pos := pos) 3 "_law_deep" (by decide +kernel)
  have v4 := fun {pos : Pos} => b.v (pos := pos) 4 "_law_base" (by decide +kernel)
  have v6 := fun {pos : Pos} => b.v (pos := pos) 6 "_law_end" (by decide +kernel)
  have v5 := fun {pos : Pos} => b.v (pos := pos) 5 "_law_start" (by decide +kernel)
  have v7 := fun {pos : Pos} => b.v (pos := pos) 7 "_law_place" (by decide +kernel)
  have v9 := fun {pos : Pos} => b.v (pos := pos) 9 "_law_target" (by decide +kernel)
  have v8 := fun {pos : Pos} => b.v (pos := pos) 8 "_law_kind" (by decide +kernel)
  exact (Ss.cons (b.set nd 5 "_law_start" (by decide +kernel) (E.callB cr_len cf_len g_len z_len (by decide +kernel) (A.cons v1 A.nil)))
  (Ss.cons (St.expr (E.callW c_law_body b.room b.tk g_law_body (A.cons v0 (A.cons v1 (A.cons v2 (A.cons v3 (A.cons v4 A.nil))))) (hk := by omega)))
  (Ss.cons (b.set nd 6 "_law_end" (by decide +kernel) (E.callB cr_len cf_len g_len z_len (by decide +kernel) (A.cons v1 A.nil)))
  (Ss.cons (St.expr (E.bm PySem.F.plainAttrs_list PySem.F.slot_list_append PySem.F.type_list_append mt_append mtf_append v1 (A.cons (E.lst true (A.cons (E.tup (A.cons E.str (A.cons E.int A.nil))) (A.cons (E.callW c_law_line b.room b.tk g_law_line (A.cons v0 A.nil) (hk := by omega)) A.nil))) A.nil)))
  (Ss.cons (b.set nd 7 "_law_place" (by decide +kernel) (E.callB cr_len cf_len g_len z_len (by decide +kernel) (A.cons v2 A.nil)))
  (Ss.cons (b.set nd 8 "_law_kind" (by decide +kernel) (E.ix (E.lst false (A.cons E.non (A.cons E.str (A.cons E.str (A.cons E.str A.nil))))) (E.callW c_law_draw b.room b.tk g_law_draw (A.cons v0 (A.cons E.int A.nil)) (hk := by omega))))
  (Ss.cons (b.set nd 9 "_law_target" (by decide +kernel) (E.callB cr_len cf_len g_len z_len (by decide +kernel) (A.cons v1 A.nil)))
  (Ss.cons (St.expr (E.callW c_law_plain b.room b.tk g_law_plain (A.cons v0 (A.cons v1 A.nil)) (hk := by omega)))
  (Ss.cons (St.asg (E.tup (A.cons E.str (A.cons (E.callB cr_len cf_len g_len z_len (by decide +kernel) (A.cons v1 A.nil)) A.nil))) (Tg.sub (E.ix v1 v6) E.int set_list set_lst))
  (Ss.one (St.ite (B.gt v6 v5) (Ss.one (St.expr (E.bm PySem.F.plainAttrs_list PySem.F.slot_list_insert PySem.F.type_list_insert mt_insert mtf_insert v2 (A.cons v7 (A.cons (E.tup (A.cons v5 (A.cons v6 (A.cons v9 (A.cons v4 (A.cons v8 A.nil)))))) A.nil))))) Ss.nil)))))))))))

theorem sc_law_body : FnScope ["_law_draws", "_law_rows", "_law_handlers", "_law_deep", "_law_base", "_law_k", "_law_at"] ["_law_draws", "_law_rows", "_law_handlers", "_law_deep", "_law_base"] (defScope (topS 43)) := ⟨rfl, rfl, rfl, by decide +kernel, rfl, by decide +kernel, by decide +kernel⟩
theorem b_law_body {self_law_choice : List PV → Sto → R PV} {self_law_loop : List PV → Sto → R PV} {self_law_body : List PV → Sto → R PV} {self_law_guard : List PV → Sto → R PV} (n : Nat) {P : Program} {w : World} {K : PySem.W.Frag} {mg : Str → Option Value} {base : Heap} (F : DefAt K mg "_law_body" (topS 43) ["_law_draws", "_law_rows", "_law_handlers", "_law_deep", "_law_base"]) (c_law_draw : Cal P w K mg base 1 "_law_draw" (spW ⟨K, mg⟩ f_law_draw)) (c_law_plain : Cal P w K mg base 4 "_law_plain" (spW ⟨K, mg⟩ f_law_plain)) (c_law_line : Cal P w K mg base 2 "_law_line" (spW ⟨K, mg⟩ f_law_line)) (c_law_number : Cal P w K mg base 2 "_law_number" (spW ⟨K, mg⟩ f_law_number)) (z_range : mg "range" = none) (z_len : mg "len" = none) (c_law_choice : Cal P w K mg base (4 + n) "_law_choice" (spW ⟨K, mg⟩ self_law_choice)) (c_law_loop : Cal P w K mg base (4 + n) "_law_loop" (spW ⟨K, mg⟩ self_law_loop)) (c_law_body : Cal P w K mg base (4 + n) "_law_body" (spW ⟨K, mg⟩ self_law_body)) (c_law_guard : Cal P w K mg base (4 + n) "_law_guard" (spW ⟨K, mg⟩ self_law_guard)) : Cal P w K mg base (4 + n + 1) "_law_body" (spW ⟨K, mg⟩ (runW 5 7 (body_law_body self_law_choice self_law_loop self_law_body self_law_guard))) := by
  obtain ⟨f, fd, F, hm, hb⟩ := F
  refine Cal.mkW F hm sc_law_body hb rfl rfl fun X W e1 e2 e3 e4 e5 b => ?_
  subst e1 e2 e3 e4 e5
  have nd := sc_law_body.nd
  have g_law_draw := b.gl "_law_draw" (by decide +kernel)
  have g_range := b.gl "range" (by decide +kernel)
  have g_len := b.gl "len" (by decide +kernel)
  have g_law_plain := b.gl "_law_plain" (by decide +kernel)
  have g_law_choice := b.gl "_law_choice" (by decide +kernel)
  have g_law_loop := b.gl "_law_loop" (by decide +kernel)
  have g_law_number := b.gl "_law_number" (by decide +kernel)
  have g_law_line := b.gl "_law_line" (by decide +kernel)
  have g_law_body := b.gl "_law_body" (by decide +kernel)
  have g_law_guard := b.gl "_law_guard" (by decide +kernel)
  have v0 := fun {pos : Pos} => b.v (pos := pos) 0 "_law_draws" (by decide +kernel)
  have v6 := fun {pos : Pos} => b.v (pos := pos) 6 "_law_at" (by decide +kernel)
  have v3 := fun {pos : Pos} => b.v (pos := pos) 3 "_law_deep" (by decide +kernel)
  have v1 := fun {pos : Pos} => b.v (pos := pos) 1 "_law_rows" (by decide +kernel)
  have v2 := fun {pos : Pos} => b.v (pos := pos) 2 "_law_handlers" (by decide +kernel)
  have v4 := fun {pos : Pos} => b.v (pos := pos) 4 "_law_base" (by decide +kernel)
  have t5 := fun {pos : Pos} => b.t (pos := pos) nd 5 "_law_k" (by decide +kernel)
  exact (Ss.one (St.for b.po b.calm (I.r1 g_range z_range (A.cons (E.callW c_law_draw b.room b.tk g_law_draw (A.cons v0 (A.cons E.int A.nil)) (hk := by omega)) A.nil)) t5 (Ss.cons (b.set nd 6 "_law_at" (by decide +kernel) (E.callW c_law_draw b.room b.tk g_law_draw (A.cons v0 (A.cons E.int A.nil)) (hk := by omega)))
  (Ss.one (St.ite (BW.t (BW.or (B.gt (E.callB cr_len cf_len g_len z_len (by decide +kernel) (A.cons v1 A.nil)) E.int) (BW.or (B.eq b.hu v3 E.int) (BW.or1 (B.le v6 E.int))))) (Ss.one (St.expr (E.callW c_law_plain b.room b.tk g_law_plain (A.cons v0 (A.cons v1 A.nil)) (hk := by omega)))) (Ss.one (St.ite (B.eq b.hu v6 E.int) (Ss.one (St.expr (E.callW c_law_choice b.room b.tk g_law_choice (A.cons v0 (A.cons v1 (A.cons v2 (A.cons (E.sub v3 E.int) (A.cons v4 A.nil))))) (hk := by omega)))) (Ss.one (St.ite (B.eq b.hu v6 E.int) (Ss.one (St.expr (E.callW c_law_loop b.room b.tk g_law_loop (A.cons v0 (A.cons v1 (A.cons v2 (A.cons (E.sub v3 E.int) (A.cons v4 A.nil))))) (hk := by omega)))) (Ss.one (St.ite (B.eq b.hu v6 E.int) (Ss.cons (St.expr (E.bm PySem.F.plainAttrs_list PySem.F.slot_list_append PySem.F.type_list_append mt_append mtf_append v1 (A.cons (E.lst false (A.cons (E.tup (A.cons E.str (A.cons (E.callW c_law_number b.room b.tk g_law_number (A.cons v0 A.nil) (hk := by omega)) A.nil))) (A.cons (E.callW c_law_line b.room b.tk g_law_line (A.cons v0 A.nil) (hk := by omega)) A.nil))) A.nil)))
  (Ss.cons (St.expr (E.callW c_law_body b.room b.tk g_law_body (A.cons v0 (A.cons v1 (A.cons v2 (A.cons (E.sub v3 E.int) (A.cons (E.add false v4 E.int) A.nil))))) (hk := by omega)))
  (Ss.one (St.expr (E.bm PySem.F.plainAttrs_list PySem.F.slot_list_append PySem.F.type_list_append mt_append mtf_append v1 (A.cons (E.lst false (A.cons (E.ix (E.lst false (A.cons (E.tup (A.cons E.str A.nil)) (A.cons (E.tup (A.cons E.str A.nil)) A.nil))) (E.callW c_law_draw b.room b.tk g_law_draw (A.cons v0 (A.cons E.int A.nil)) (hk := by omega))) (A.cons (E.callW c_law_line b.room b.tk g_law_line (A.cons v0 A.nil) (hk := by omega)) A.nil))) A.nil)))))) (Ss.one (St.expr (E.callW c_law_guard b.room b.tk g_law_guard (A.cons v0 (A.cons v1 (A.cons v2 (A.cons (E.sub v3 E.int) (A.cons v4 A.nil))))) (hk := by omega)))))))))))))))
theorem d_fam_law_body {P : Program} {w : World} {K : PySem.W.Frag} {mg : Str → Option Value} {base : Heap} (F_law_choice : DefAt K mg "_law_choice" (topS 40) ["_law_draws", "_law_rows", "_law_handlers", "_law_deep", "_law_base"]) (F_law_loop : DefAt K mg "_law_loop" (topS 41) ["_law_draws", "_law_rows", "_law_handlers", "_law_deep", "_law_base"]) (F_law_guard : DefAt K mg "_law_guard" (topS 42) ["_law_draws", "_law_rows", "_law_handlers", "_law_deep", "_law_base"]) (F_law_body : DefAt K mg "_law_body" (topS 43) ["_law_draws", "_law_rows", "_law_handlers", "_law_deep", "_law_base"]) (c_law_line : Cal P w K mg base 2 "_law_line" (spW ⟨K, mg⟩ f_law_line)) (c_law_value : Cal P w K mg base 3 "_law_value" (spW ⟨K, mg⟩ f_law_value)) (c_law_draw : Cal P w K mg base 1 "_law_draw" (spW ⟨K, mg⟩ f_law_draw)) (z_len : mg "len" = none) (c_law_plain : Cal P w K mg base 4 "_law_plain" (spW ⟨K, mg⟩ f_law_plain)) (c_law_number : Cal P w K mg base 2 "_law_number" (spW ⟨K, mg⟩ f_law_number)) (z_range : mg "range" = none) : ∀ n, Cal P w K mg base (4 + n) "_law_choice" (spW ⟨K, mg⟩ (f_law_choice n)) ∧ Cal P w K mg base (4 + n) "_law_loop" (spW ⟨K, mg⟩ (f_law_loop n)) ∧ Cal P w K mg base (4 + n) "_law_guard" (spW ⟨K, mg⟩ (f_law_guard n)) ∧ Cal P w K mg base (4 + n) "_law_body" (spW ⟨K, mg⟩ (f_law_body n))
  | 0 => ⟨F_law_choice.badW (f_law_choice 0) (fun _ _ => rfl), F_law_loop.badW (f_law_loop 0) (fun _ _ => rfl), F_law_guard.badW (f_law_guard 0) (fun _ _ => rfl), F_law_body.badW (f_law_body 0) (fun _ _ => rfl)⟩
  | n + 1 => by
    have ih := d_fam_law_body F_law_choice F_law_loop F_law_guard F_law_body c_law_line c_law_value c_law_draw z_len c_law_plain c_law_number z_range n
    exact ⟨b_law_choice n F_law_choice c_law_line c_law_value c_law_draw z_len ih.2.2.2, b_law_loop n F_law_loop c_law_line c_law_draw z_len ih.2.2.2, b_law_guard n F_law_guard c_law_plain c_law_draw c_law_line z_len ih.2.2.2, b_law_body n F_law_body c_law_draw c_law_plain c_law_line c_law_number z_range z_len ih.1 ih.2.1 ih.2.2.2 ih.2.2.1⟩

theorem sc_law_parts : FnScope ["_law_draws", "_law_rows", "_law_handlers", "_law_k", "_law_code", "_law_lines", "_law_row"] ["_law_draws"] (defScope (topS 44)) := ⟨rfl, rfl, rfl, by decide +kernel, rfl, by decide +kernel, by decide +kernel⟩
theorem d_law_parts {P : Program} {w : World} {K : PySem.W.Frag} {mg : Str → Option Value} {base : Heap} (F : DefAt K mg "_law_parts" (topS 44) ["_law_draws"]) (c_law_body : Cal P w K mg base 14 "_law_body" (spW ⟨K, mg⟩ (f_law_body 10))) (c_law_draw : Cal P w K mg base 1 "_law_draw" (spW ⟨K, mg⟩ f_law_draw)) (c_law_line : Cal P w K mg base 2 "_law_line" (spW ⟨K, mg⟩ f_law_line)) (z_range : mg "range" = none) : Cal P w K mg base 16 "_law_parts" (spW ⟨K, mg⟩ f_law_parts) := by
  obtain ⟨f, fd, F, hm, hb⟩ := F
  refine Cal.mkW F hm sc_law_parts hb rfl rfl fun X W e1 e2 e3 e4 e5 b => ?_
  subst e1 e2 e3 e4 e5
  have nd := sc_law_parts.nd
  have g_law_draw := b.gl "_law_draw" (by decide +kernel)
  have g_range := b.gl "range" (by decide +kernel)
  have g_law_body := b.gl "_law_body" (by decide +kernel)
  have g_law_line := b.gl "_law_line" (by decide +kernel)
  have v0 := fun {pos : Pos} => b.v (pos := pos) 0 "_law_draws" (by decide +kernel)
  have v1 := fun {pos : Pos} => b.v (pos := pos) 1 "_law_rows" (by decide +kernel)
  have v2 := fun {pos : Pos} => b.v (pos := pos) 2 "_law_handlers" (by decide +kernel)
  have v4 := fun {pos : Pos} => b.v (pos := pos) 4 "_law_code" (by decide +kernel)
  have v5 := fun {pos : Pos} => b.v (pos := pos) 5 "_law_lines" (by decide +kernel)
  have t3 := fun {pos : Pos} => b.t (pos := pos) nd 3 "_law_k" (by decide +kernel)
  exact (Ss.cons (b.set nd 1 "_law_rows" (by decide +kernel) (E.lst true A.nil))
  (Ss.cons (b.set nd 2 "_law_handlers" (by decide +kernel) (E.lst true A.nil))
  (Ss.cons (St.for b.po b.calm (I.r1 g_range z_range (A.cons (E.add false E.int (E.callW c_law_draw b.room b.tk g_law_draw (A.cons v0 (A.cons E.int A.nil)))) A.nil)) t3 (Ss.one (St.expr (E.callW c_law_body b.room b.tk g_law_body (A.cons v0 (A.cons v1 (A.cons v2 (A.cons E.int (A.cons E.int A.nil)))))))))
  (Ss.cons (St.expr (E.bm PySem.F.plainAttrs_list PySem.F.slot_list_append PySem.F.type_list_append mt_append mtf_append v1 (A.cons (E.lst false (A.cons (E.tup (A.cons E.str A.nil)) (A.cons (E.callW c_law_line b.room b.tk g_law_line (A.cons v0 A.nil)) A.nil))) A.nil)))
  (Ss.cons (St.ite (B.eq b.hu (E.callW c_law_draw b.room b.tk g_law_draw (A.cons v0 (A.cons E.int A.nil))) E.int) (Ss.cons (St.expr (E.bm PySem.F.plainAttrs_list PySem.F.slot_list_append PySem.F.type_list_append mt_append mtf_append v1 (A.cons (E.lst false (A.cons (E.tup (A.cons E.str (A.cons E.int A.nil))) (A.cons E.int A.nil))) A.nil)))
  (Ss.cons (St.expr (E.bm PySem.F.plainAttrs_list PySem.F.slot_list_append PySem.F.type_list_append mt_append mtf_append v1 (A.cons (E.lst false (A.cons (E.tup (A.cons E.str A.nil)) (A.cons E.int A.nil))) A.nil)))
  (Ss.one (St.expr (E.bm PySem.F.plainAttrs_list PySem.F.slot_list_append PySem.F.type_list_append mt_append mtf_append v1 (A.cons (E.lst false (A.cons (E.tup (A.cons E.str (A.cons E.int A.nil))) (A.cons E.int A.nil))) A.nil)))))) Ss.nil)
  (Ss.cons (Body.setLc (own := [("_law_row", 6)]) true b nd 4 "_law_code" (by decide +kernel) (I.any v1) (by decide +kernel) (CG.name (by decide)) (fun _ _ _ _ _ => blk_pg b.hN b.sc nd 6 "_law_row" (by decide +kernel)) (fun _ _ _ _ _ => Ts.nil) (fun _ _ _ _ _ => (E.ix (b.bk.v 6 "_law_row" (by decide +kernel)) E.int)))
  (Ss.cons (Body.setLc (own := [("_law_row", 6)]) true b nd 5 "_law_lines" (by decide +kernel) (I.any v1) (by decide +kernel) (CG.name (by decide)) (fun _ _ _ _ _ => blk_pg b.hN b.sc nd 6 "_law_row" (by decide +kernel)) (fun _ _ _ _ _ => Ts.nil) (fun _ _ _ _ _ => (E.ix (b.bk.v 6 "_law_row" (by decide +kernel)) E.int)))
  (Ss.one (St.ret (E.lst true (A.cons v4 (A.cons v5 (A.cons v2 A.nil)))))))))))))

theorem sc_law_exits : FnScope ["_law_code", "_law_handlers", "_law_index", "_law_one", "_law_found", "_law_kind", "_law_handler", "_law_other"] ["_law_code", "_law_handlers", "_law_index"] (defScope (topS 46)) := ⟨rfl, rfl, rfl, by decide +kernel, rfl, by decide +kernel, by decide +kernel⟩
theorem d_law_exits {P : Program} {w : World} {K : PySem.W.Frag} {mg : Str → Option Value} {base : Heap} (F : DefAt K mg "_law_exits" (topS 46) ["_law_code", "_law_handlers", "_law_index"]) (z_sorted : mg "sorted" = none) (z_set : mg "set" = none) : Cal P w K mg base 1 "_law_exits" (spP ⟨K, mg⟩ f_law_exits) := by
  obtain ⟨f, fd, F, hm, hb⟩ := F
  refine Cal.mkP F hm sc_law_exits hb rfl rfl fun X W e1 e2 e3 e4 e5 b => ?_
  subst e1 e2 e3 e4 e5
  have nd := sc_law_exits.nd
  have g_sorted := b.gl "sorted" (by decide +kernel)
  have g_set := b.gl "set" (by decide +kernel)
  have v0 := fun {pos : Pos} => b.v (pos := pos) 0 "_law_code" (by decide +kernel)
  have v2 := fun {pos : Pos} => b.v (pos := pos) 2 "_law_index" (by decide +kernel)
  have v3 := fun {pos : Pos} => b.v (pos := pos) 3 "_law_one" (by decide +kernel)
  have v4 := fun {pos : Pos} => b.v (pos := pos) 4 "_law_found" (by decide +kernel)
  have v5 := fun {pos : Pos} => b.v (pos := pos) 5 "_law_kind" (by decide +kernel)
  have v1 := fun {pos : Pos} => b.v (pos := pos) 1 "_law_handlers" (by decide +kernel)
  have v7 := fun {pos : Pos} => b.v (pos := pos) 7 "_law_other" (by decide +kernel)
  have v6 := fun {pos : Pos} => b.v (pos := pos) 6 "_law_handler" (by decide +kernel)
  have t7 := fun {pos : Pos} => b.t (pos := pos) nd 7 "_law_other" (by decide +kernel)
  exact (Ss.cons (b.set nd 3 "_law_one" (by decide +kernel) (E.ix v0 v2))
  (Ss.cons (b.set nd 4 "_law_found" (by decide +kernel) (E.lst true A.nil))
  (Ss.cons (St.ite (B.cmp (or_nin b.hu65) opf_nin (E.ix v3 E.int) (E.tup (A.cons E.str (A.cons E.str (A.cons E.str A.nil)))) (by with_unfolding_all rfl)) (Ss.one (St.expr (E.bm PySem.F.plainAttrs_list PySem.F.slot_list_append PySem.F.type_list_append mt_append mtf_append v4 (A.cons (E.add false v2 E.int) A.nil)))) Ss.nil)
  (Ss.cons (St.ite (B.cmp (or_in b.hu65) opf_in (E.ix v3 E.int) (E.tup (A.cons E.str (A.cons E.str A.nil))) (by with_unfolding_all rfl)) (Ss.one (St.expr (E.bm PySem.F.plainAttrs_list PySem.F.slot_list_append PySem.F.type_list_append mt_append mtf_append v4 (A.cons (E.ix v3 E.int) A.nil)))) Ss.nil)
  (Ss.cons (b.set nd 5 "_law_kind" (by decide +kernel) E.non)
  (Ss.cons (St.ite (B.eq b.hu (E.ix v3 E.int) E.str) (Ss.one (b.set nd 5 "_law_kind" (by decide +kernel) E.str)) Ss.nil)
  (Ss.cons (St.ite (B.eq b.hu (E.ix v3 E.int) E.str) (Ss.one (b.set nd 5 "_law_kind" (by decide +kernel) E.str)) Ss.nil)
  (Ss.cons (St.ite (B.eq b.hu (E.ix v3 E.int) E.str) (Ss.one (b.set nd 5 "_law_kind" (by decide +kernel) (E.ix v3 E.int))) Ss.nil)
  (Ss.cons (St.ite (B.notN v5) (Ss.cons (b.set nd 6 "_law_handler" (by decide +kernel) E.non)
  (Ss.cons (St.for b.po b.calm (I.any v1) t7 (Ss.one (St.ite (BW.t (BW.and (B.isN v6) (BW.and (B.chain op_le op_lt opf_B0 opf_B0 (E.ix v7 E.int) v2 (E.ix v7 E.int)) (BW.and1 (BW.t (BW.or (B.isN (E.ix v7 E.int)) (BW.or1 (B.eq b.hu (E.ix v7 E.int) v5)))))))) (Ss.one (b.set nd 6 "_law_handler" (by decide +kernel) v7)) Ss.nil)))
  (Ss.one (St.ite (B.notN v6) (Ss.one (St.expr (E.bm PySem.F.plainAttrs_list PySem.F.slot_list_append PySem.F.type_list_append mt_append mtf_append v4 (A.cons (E.ix v6 E.int) A.nil)))) Ss.nil)))) Ss.nil)
  (Ss.one (St.ret (E.sortSet false b.calm g_sorted z_sorted g_set z_set v4))))))))))))

theorem sc_law_like : FnScope ["_law_actual", "_law_due", "_law_k"] ["_law_actual", "_law_due"] (defScope (topS 48)) := ⟨rfl, rfl, rfl, by decide +kernel, rfl, by decide +kernel, by decide +kernel⟩
theorem b_law_like {self_law_like : List PV → RP} (n : Nat) {P : Program} {w : World} {K : PySem.W.Frag} {mg : Str → Option Value} {base : Heap} (F : DefAt K mg "_law_like" (topS 48) ["_law_actual", "_law_due"]) (z_bool : mg "bool" = none) (z_isinstance : mg "isinstance" = none) (z_int : mg "int" = none) (z_str : mg "str" = none) (z_tuple : mg "tuple" = none) (z_len : mg "len" = none) (z_list : mg "list" = none) (z_range : mg "range" = none) (c_law_like : Cal P w K mg base (0 + n) "_law_like" (spP ⟨K, mg⟩ self_law_like)) : Cal P w K mg base (0 + n + 1) "_law_like" (spP ⟨K, mg⟩ (runP 2 3 (body_law_like self_law_like))) := by
  obtain ⟨f, fd, F, hm, hb⟩ := F
  refine Cal.mkP F hm sc_law_like hb rfl rfl fun X W e1 e2 e3 e4 e5 b => ?_
  subst e1 e2 e3 e4 e5
  have nd := sc_law_like.nd
  have g_bool := b.gl "bool" (by decide +kernel)
  have g_isinstance := b.gl "isinstance" (by decide +kernel)
  have g_int := b.gl "int" (by decide +kernel)
  have g_str := b.gl "str" (by decide +kernel)
  have g_tuple := b.gl "tuple" (by decide +kernel)
  have g_len := b.gl "len" (by decide +kernel)
  have g_list := b.gl "list" (by decide +kernel)
  have g_range := b.gl "range" (by decide +kernel)
  have g_law_like := b.gl "_law_like" (by decide +kernel)
  have v1 := fun {pos : Pos} => b.v (pos := pos) 1 "_law_due" (by decide +kernel)
  have v0 := fun {pos : Pos} => b.v (pos := pos) 0 "_law_actual" (by decide +kernel)
  have v2 := fun {pos : Pos} => b.v (pos := pos) 2 "_law_k" (by decide +kernel)
  have t2 := fun {pos : Pos} => b.t (pos := pos) nd 2 "_law_k" (by decide +kernel)
  exact (Ss.cons (St.ite (B.isN v1) (Ss.one (St.ret (E.isN v0))) Ss.nil)
  (Ss.cons (St.ite (B.tru (E.callB call_isi cf_isi g_isinstance z_isinstance (by decide +kernel) (A.cons v1 (A.cons (E.ty g_bool z_bool (by decide +kernel)) A.nil)))) (Ss.one (St.ret (E.and (E.callB call_isi cf_isi g_isinstance z_isinstance (by decide +kernel) (A.cons v0 (A.cons (E.ty g_bool z_bool (by decide +kernel)) A.nil))) (E.one (E.eq b.hu v0 v1))))) Ss.nil)
  (Ss.cons (St.ite (B.tru (E.callB call_isi cf_isi g_isinstance z_isinstance (by decide +kernel) (A.cons v1 (A.cons (E.ty g_int z_int (by decide +kernel)) A.nil)))) (Ss.one (St.ret (E.and (E.callB call_isi cf_isi g_isinstance z_isinstance (by decide +kernel) (A.cons v0 (A.cons (E.ty g_int z_int (by decide +kernel)) A.nil))) (E.and (E.not (E.callB call_isi cf_isi g_isinstance z_isinstance (by decide +kernel) (A.cons v0 (A.cons (E.ty g_bool z_bool (by decide +kernel)) A.nil)))) (E.one (E.eq b.hu v0 v1)))))) Ss.nil)
  (Ss.cons (St.ite (B.tru (E.callB call_isi cf_isi g_isinstance z_isinstance (by decide +kernel) (A.cons v1 (A.cons (E.ty g_str z_str (by decide +kernel)) A.nil)))) (Ss.one (St.ret (E.and (E.callB call_isi cf_isi g_isinstance z_isinstance (by decide +kernel) (A.cons v0 (A.cons (E.ty g_str z_str (by decide +kernel)) A.nil))) (E.one (E.eq b.hu v0 v1))))) Ss.nil)
  (Ss.cons (St.ite (B.tru (E.callB call_isi cf_isi g_isinstance z_isinstance (by decide +kernel) (A.cons v1 (A.cons (E.ty g_tuple z_tuple (by decide +kernel)) A.nil)))) (Ss.one (St.ite (BW.t (BW.or (B.not (B.tru (E.callB call_isi cf_isi g_isinstance z_isinstance (by decide +kernel) (A.cons v0 (A.cons (E.ty g_tuple z_tuple (by decide +kernel)) A.nil))))) (BW.or1 (B.ne b.hu (E.callB cr_len cf_len g_len z_len (by decide +kernel) (A.cons v0 A.nil)) (E.callB cr_len cf_len g_len z_len (by decide +kernel) (A.cons v1 A.nil)))))) (Ss.one (St.ret E.bl)) Ss.nil)) (Ss.one (St.ite (BW.t (BW.or (B.not (B.tru (E.callB call_isi cf_isi g_isinstance z_isinstance (by decide +kernel) (A.cons v0 (A.cons (E.ty g_list z_list (by decide +kernel)) A.nil))))) (BW.or1 (B.ne b.hu (E.callB cr_len cf_len g_len z_len (by decide +kernel) (A.cons v0 A.nil)) (E.callB cr_len cf_len g_len z_len (by decide +kernel) (A.cons v1 A.nil)))))) (Ss.one (St.ret E.bl)) Ss.nil)))
  (Ss.cons (St.for b.po b.calm (I.r1 g_range z_range (A.cons (E.callB cr_len cf_len g_len z_len (by decide +kernel) (A.cons v1 A.nil)) A.nil)) t2 (Ss.one (St.ite (B.not (B.tru (E.call c_law_like b.room b.tk g_law_like (A.cons (E.ix v0 v2) (A.cons (E.ix v1 v2) A.nil)) (hk := by omega)))) (Ss.one (St.ret E.bl)) Ss.nil)))
  (Ss.one (St.ret E.bl))))))))
theorem d_law_like {P : Program} {w : World} {K : PySem.W.Frag} {mg : Str → Option Value} {base : Heap} (F : DefAt K mg "_law_like" (topS 48) ["_law_actual", "_law_due"]) (z_bool : mg "bool" = none) (z_isinstance : mg "isinstance" = none) (z_int : mg "int" = none) (z_str : mg "str" = none) (z_tuple : mg "tuple" = none) (z_len : mg "len" = none) (z_list : mg "list" = none) (z_range : mg "range" = none) : ∀ n, Cal P w K mg base (0 + n) "_law_like" (spP ⟨K, mg⟩ (f_law_like n))
  | 0 => F.badP (f_law_like 0) (fun _ => rfl)
  | n + 1 => b_law_like n F z_bool z_isinstance z_int z_str z_tuple z_len z_list z_range (d_law_like F z_bool z_isinstance z_int z_str z_tuple z_len z_list z_range n)

theorem sc_law_wild : FnScope ["_law_draws", "_law_many", "_law_words", "_law_code", "_law_k", "_law_handlers", "_law_word_here", "_law_one", "_law_start", "_law_end", "_law_kind"] ["_law_draws"] (defScope (topS 49)) := ⟨rfl, rfl, rfl, by decide +kernel, rfl, by decide +kernel, by decide +kernel⟩
theorem d_law_wild {P : Program} {w : World} {K : PySem.W.Frag} {mg : Str → Option Value} {base : Heap} (F : DefAt K mg "_law_wild" (topS 49) ["_law_draws"]) (c_law_draw : Cal P w K mg base 1 "_law_draw" (spW ⟨K, mg⟩ f_law_draw)) (c_law_line : Cal P w K mg base 2 "_law_line" (spW ⟨K, mg⟩ f_law_line)) (z_range : mg "range" = none) (z_len : mg "len" = none) : Cal P w K mg base 3 "_law_wild" (spW ⟨K, mg⟩ f_law_wild) := by
  obtain ⟨f, fd, F, hm, hb⟩ := F
  refine Cal.mkW F hm sc_law_wild hb rfl rfl fun X W e1 e2 e3 e4 e5 b => ?_
  subst e1 e2 e3 e4 e5
  have nd := sc_law_wild.nd
  have g_law_draw := b.gl "_law_draw" (by decide +kernel)
  have g_range := b.gl "range" (by decide +kernel)
  have g_len := b.gl "len" (by decide +kernel)
  have v0 := fun {pos : Pos} => b.v (pos := pos) 0 "_law_draws" (by decide +kernel)
  have v2 := fun {pos : Pos} => b.v (pos := pos) 2 "_law_words" (by decide +kernel)
  have v1 := fun {pos : Pos} => b.v (pos := pos) 1 "_law_many" (by decide +kernel)
  have v6 := fun {pos : Pos} => b.v (pos := pos) 6 "_law_word_here" (by decide +kernel)
  have v3 := fun {pos : Pos} => b.v (pos := pos) 3 "_law_code" (by decide +kernel)
  have v7 := fun {pos : Pos} => b.v (pos := pos) 7 "_law_one" (by decide +kernel)
  have v8 := fun {pos : Pos} => b.v (pos := pos) 8 "_law_start" (by decide +kernel)
  have v5 := fun {pos : Pos} => b.v (pos := pos) 5 "_law_handlers" (by decide +kernel)
  have v9 := fun {pos : Pos} => b.v (pos := pos) 9 "_law_end" (by decide +kernel)
  have v10 := fun {pos : Pos} => b.v (pos := pos) 10 "_law_kind" (by decide +kernel)
  have t4 := fun {pos : Pos} => b.t (pos := pos) nd 4 "_law_k" (by decide +kernel)
  exact (Ss.cons (b.set nd 1 "_law_many" (by decide +kernel) (E.add false E.int (E.callW c_law_draw b.room b.tk g_law_draw (A.cons v0 (A.cons E.int A.nil)))))
  (Ss.cons (b.set nd 2 "_law_words" (by decide +kernel) (E.lst false (A.cons E.str (A.cons E.str (A.cons E.str (A.cons E.str (A.cons E.str (A.cons E.str (A.cons E.str (A.cons E.str (A.cons E.str (A.cons E.str (A.cons E.str (A.cons E.str (A.cons E.str A.nil)))))))))))))))
  (Ss.cons (b.set nd 2 "_law_words" (by decide +kernel) (E.add false v2 (E.lst false (A.cons E.str (A.cons E.str (A.cons E.str (A.cons E.str (A.cons E.str A.nil))))))))
  (Ss.cons (b.set nd 3 "_law_code" (by decide +kernel) (E.lst true A.nil))
  (Ss.cons (St.for b.po b.calm (I.r1 g_range z_range (A.cons v1 A.nil)) t4 (Ss.cons (b.set nd 6 "_law_word_here" (by decide +kernel) (E.ix v2 (E.callW c_law_draw b.room b.tk g_law_draw (A.cons v0 (A.cons (E.callB cr_len cf_len g_len z_len (by decide +kernel) (A.cons v2 A.nil)) A.nil)))))
  (Ss.cons (b.set nd 7 "_law_one" (by decide +kernel) (E.tup (A.cons v6 A.nil)))
  (Ss.cons (St.ite (B.eq b.hu v6 E.str) (Ss.one (b.set nd 7 "_law_one" (by decide +kernel) (E.tup (A.cons v6 (A.cons (E.callW c_law_draw b.room b.tk g_law_draw (A.cons v0 (A.cons E.int A.nil))) A.nil))))) Ss.nil)
  (Ss.cons (St.ite (B.cmp (or_in b.hu65) opf_in v6 (E.tup (A.cons E.str (A.cons E.str (A.cons E.str A.nil)))) (by with_unfolding_all rfl)) (Ss.one (b.set nd 7 "_law_one" (by decide +kernel) (E.tup (A.cons v6 (A.cons (E.ix (E.lst false (A.cons E.str (A.cons E.str (A.cons E.str A.nil)))) (E.callW c_law_draw b.room b.tk g_law_draw (A.cons v0 (A.cons E.int A.nil)))) A.nil))))) Ss.nil)
  (Ss.cons (St.ite (B.cmp (or_in b.hu65) opf_in v6 (E.tup (A.cons E.str (A.cons E.str A.nil))) (by with_unfolding_all rfl)) (Ss.one (b.set nd 7 "_law_one" (by decide +kernel) (E.tup (A.cons v6 (A.cons (E.callW c_law_draw b.room b.tk g_law_draw (A.cons v0 (A.cons v1 A.nil))) A.nil))))) Ss.nil)
  (Ss.one (St.expr (E.bm PySem.F.plainAttrs_list PySem.F.slot_list_append PySem.F.type_list_append mt_append mtf_append v3 (A.cons v7 A.nil))))))))))
  (Ss.cons (St.asg (E.ix (E.lst false (A.cons (E.tup (A.cons E.str A.nil)) (A.cons (E.tup (A.cons E.str (A.cons E.str A.nil))) (A.cons (E.tup (A.cons E.str (A.cons (E.callW c_law_draw b.room b.tk g_law_draw (A.cons v0 (A.cons v1 A.nil))) A.nil))) A.nil)))) (E.callW c_law_draw b.room b.tk g_law_draw (A.cons v0 (A.cons E.int A.nil)))) (Tg.sub v3 (E.sub v1 E.int) set_list set_lst))
  (Ss.cons (b.set nd 5 "_law_handlers" (by decide +kernel) (E.lst true A.nil))
  (Ss.cons (St.for b.po b.calm (I.r1 g_range z_range (A.cons (E.callW c_law_draw b.room b.tk g_law_draw (A.cons v0 (A.cons E.int A.nil))) A.nil)) t4 (Ss.cons (b.set nd 8 "_law_start" (by decide +kernel) (E.callW c_law_draw b.room b.tk g_law_draw (A.cons v0 (A.cons v1 A.nil))))
  (Ss.cons (b.set nd 9 "_law_end" (by decide +kernel) (E.add false (E.add false v8 E.int) (E.callW c_law_draw b.room b.tk g_law_draw (A.cons v0 (A.cons (E.sub v1 v8) A.nil)))))
  (Ss.cons (b.set nd 10 "_law_kind" (by decide +kernel) (E.ix (E.lst false (A.cons E.non (A.cons E.str (A.cons E.str A.nil)))) (E.callW c_law_draw b.room b.tk g_law_draw (A.cons v0 (A.cons E.int A.nil)))))
  (Ss.one (St.expr (E.bm PySem.F.plainAttrs_list PySem.F.slot_list_append PySem.F.type_list_append mt_append mtf_append v5 (A.cons (E.tup (A.cons v8 (A.cons v9 (A.cons (E.callW c_law_draw b.room b.tk g_law_draw (A.cons v0 (A.cons v1 A.nil))) (A.cons (E.ix (E.lst false (A.cons E.int (A.cons E.int (A.cons E.int (A.cons E.int A.nil))))) (E.callW c_law_draw b.room b.tk g_law_draw (A.cons v0 (A.cons E.int A.nil)))) (A.cons v10 A.nil)))))) A.nil))))))))
  (Ss.one (St.ret (E.lst true (A.cons v3 (A.cons (E.lc (own := [("_law_k", 4)]) false b.calm (b.hN ▸ nd) (I.r1 g_range z_range (A.cons v1 A.nil)) (b.blk (by decide +kernel)) (CG.name (by decide)) (fun _ _ _ _ _ => blk_pg b.hN b.sc nd 4 "_law_k" (by decide +kernel)) (fun _ _ _ _ _ => Ts.nil) (fun _ _ _ _ _ => (E.callW c_law_line b.room takes0 (b.bk.gl "_law_line" (by decide +kernel)) (A.cons (b.bk.v 0 "_law_draws" (by decide +kernel)) A.nil)))) (A.cons v5 A.nil))))))))))))))

theorem sc_law_change : FnScope ["_law_one", "_law_removed", "_law_pushed"] ["_law_one"] (defScope (topS 50)) := ⟨rfl, rfl, rfl, by decide +kernel, rfl, by decide +kernel, by decide +kernel⟩
theorem d_law_change {P : Program} {w : World} {K : PySem.W.Frag} {mg : Str → Option Value} {base : Heap} (F : DefAt K mg "_law_change" (topS 50) ["_law_one"]) (z_int : mg "int" = none) : Cal P w K mg base 1 "_law_change" (spP ⟨K, mg⟩ f_law_change) := by
  obtain ⟨f, fd, F, hm, hb⟩ := F
  refine Cal.mkP F hm sc_law_change hb rfl rfl fun X W e1 e2 e3 e4 e5 b => ?_
  subst e1 e2 e3 e4 e5
  have nd := sc_law_change.nd
  have g_int := b.gl "int" (by decide +kernel)
  have v0 := fun {pos : Pos} => b.v (pos := pos) 0 "_law_one" (by decide +kernel)
  have v1 := fun {pos : Pos} => b.v (pos := pos) 1 "_law_removed" (by decide +kernel)
  have v2 := fun {pos : Pos} => b.v (pos := pos) 2 "_law_pushed" (by decide +kernel)
  exact (Ss.cons (b.set nd 1 "_law_removed" (by decide +kernel) E.int)
  (Ss.cons (St.ite (B.cmp (or_in b.hu65) opf_in (E.ix v0 E.int) (E.tup (A.cons E.str (A.cons E.str (A.cons E.str (A.cons E.str (A.cons E.str (A.cons E.str A.nil))))))) (by with_unfolding_all rfl)) (Ss.one (b.set nd 1 "_law_removed" (by decide +kernel) E.int)) Ss.nil)
  (Ss.cons (St.ite (B.cmp (or_in b.hu65) opf_in (E.ix v0 E.int) (E.tup (A.cons E.str (A.cons E.str (A.cons E.str (A.cons E.str A.nil))))) (by with_unfolding_all rfl)) (Ss.one (b.set nd 1 "_law_removed" (by decide +kernel) E.int)) Ss.nil)
  (Ss.cons (b.set nd 2 "_law_pushed" (by decide +kernel) (E.add false (E.callTy call_int1 cf_int1 g_int z_int (by decide +kernel) (A.cons (E.cmp (or_in b.hu65) opf_in (E.ix v0 E.int) (E.tup (A.cons E.str (A.cons E.str (A.cons E.str (A.cons E.str (A.cons E.str (A.cons E.str (A.cons E.str A.nil)))))))) (by with_unfolding_all rfl)) A.nil)) (E.mul false E.int (E.callTy call_int1 cf_int1 g_int z_int (by decide +kernel) (A.cons (E.eq b.hu (E.ix v0 E.int) E.str) A.nil)))))
  (Ss.one (St.ret (E.lst false (A.cons v1 (A.cons (E.sub v2 v1) A.nil)))))))))

theorem sc_law_handler_depth : FnScope ["_law_code", "_law_handlers", "_law_index", "_law_one", "_law_kind", "_law_handler"] ["_law_code", "_law_handlers", "_law_index"] (defScope (topS 51)) := ⟨rfl, rfl, rfl, by decide +kernel, rfl, by decide +kernel, by decide +kernel⟩
theorem d_law_handler_depth {P : Program} {w : World} {K : PySem.W.Frag} {mg : Str → Option Value} {base : Heap} (F : DefAt K mg "_law_handler_depth" (topS 51) ["_law_code", "_law_handlers", "_law_index"])  : Cal P w K mg base 1 "_law_handler_depth" (spP ⟨K, mg⟩ f_law_handler_depth) := by
  obtain ⟨f, fd, F, hm, hb⟩ := F
  refine Cal.mkP F hm sc_law_handler_depth hb rfl rfl fun X W e1 e2 e3 e4 e5 b => ?_
  subst e1 e2 e3 e4 e5
  have nd := sc_law_handler_depth.nd
  have v0 := fun {pos : Pos} => b.v (pos := pos) 0 "_law_code" (by decide +kernel)
  have v2 := fun {pos : Pos} => b.v (pos := pos) 2 "_law_index" (by decide +kernel)
  have v3 := fun {pos : Pos} => b.v (pos := pos) 3 "_law_one" (by decide +kernel)
  have v1 := fun {pos : Pos} => b.v (pos := pos) 1 "_law_handlers" (by decide +kernel)
  have v5 := fun {pos : Pos} => b.v (pos := pos) 5 "_law_handler" (by decide +kernel)
  have v4 := fun {pos : Pos} => b.v (pos := pos) 4 "_law_kind" (by decide +kernel)
  have t5 := fun {pos : Pos} => b.t (pos := pos) nd 5 "_law_handler" (by decide +kernel)
  exact (Ss.cons (b.set nd 3 "_law_one" (by decide +kernel) (E.ix v0 v2))
  (Ss.cons (b.set nd 4 "_law_kind" (by decide +kernel) E.non)
  (Ss.cons (St.ite (B.eq b.hu (E.ix v3 E.int) E.str) (Ss.one (b.set nd 4 "_law_kind" (by decide +kernel) E.str)) Ss.nil)
  (Ss.cons (St.ite (B.eq b.hu (E.ix v3 E.int) E.str) (Ss.one (b.set nd 4 "_law_kind" (by decide +kernel) E.str)) Ss.nil)
  (Ss.cons (St.ite (B.eq b.hu (E.ix v3 E.int) E.str) (Ss.one (b.set nd 4 "_law_kind" (by decide +kernel) (E.ix v3 E.int))) Ss.nil)
  (Ss.cons (St.for b.po b.calm (I.any v1) t5 (Ss.one (St.ite (BW.t (BW.and (B.notN v4) (BW.and (B.chain op_le op_lt opf_B0 opf_B0 (E.ix v5 E.int) v2 (E.ix v5 E.int)) (BW.and1 (BW.t (BW.or (B.isN (E.ix v5 E.int)) (BW.or1 (B.eq b.hu (E.ix v5 E.int) v4)))))))) (Ss.one (St.ret (E.lst false (A.cons (E.ix v5 E.int) (A.cons (E.ix v5 E.int) A.nil))))) Ss.nil)))
  (Ss.one (St.ret E.non))))))))

theorem sc_law_depths : FnScope ["_law_code", "_law_handlers", "_law_depths_here", "_law_waiting", "_law_index", "_law_removed", "_law_change_here", "_law_pairs", "_law_pair", "_law_target", "_law_depth", "_law_one"] ["_law_code", "_law_handlers"] (defScope (topS 52)) := ⟨rfl, rfl, rfl, by decide +kernel, rfl, by decide +kernel, by decide +kernel⟩
theorem d_law_depths {P : Program} {w : World} {K : PySem.W.Frag} {mg : Str → Option Value} {base : Heap} (F : DefAt K mg "_law_depths" (topS 52) ["_law_code", "_law_handlers"]) (c_law_change : Cal P w K mg base 1 "_law_change" (spP ⟨K, mg⟩ f_law_change)) (c_law_handler_depth : Cal P w K mg base 1 "_law_handler_depth" (spP ⟨K, mg⟩ f_law_handler_depth)) (z_len : mg "len" = none) (z_tuple : mg "tuple" = none) : Cal P w K mg base 2 "_law_depths" (spP ⟨K, mg⟩ f_law_depths) := by
  obtain ⟨f, fd, F, hm, hb⟩ := F
  refine Cal.mkP F hm sc_law_depths hb rfl rfl fun X W e1 e2 e3 e4 e5 b => ?_
  subst e1 e2 e3 e4 e5
  have nd := sc_law_depths.nd
  have g_len := b.gl "len" (by decide +kernel)
  have g_law_change := b.gl "_law_change" (by decide +kernel)
  have g_law_handler_depth := b.gl "_law_handler_depth" (by decide +kernel)
  have g_tuple := b.gl "tuple" (by decide +kernel)
  have v0 := fun {pos : Pos} => b.v (pos := pos) 0 "_law_code" (by decide +kernel)
  have v2 := fun {pos : Pos} => b.v (pos := pos) 2 "_law_depths_here" (by decide +kernel)
  have v3 := fun {pos : Pos} => b.v (pos := pos) 3 "_law_waiting" (by decide +kernel)
  have v4 := fun {pos : Pos} => b.v (pos := pos) 4 "_law_index" (by decide +kernel)
  have v5 := fun {pos : Pos} => b.v (pos := pos) 5 "_law_removed" (by decide +kernel)
  have v7 := fun {pos : Pos} => b.v (pos := pos) 7 "_law_pairs" (by decide +kernel)
  have v6 := fun {pos : Pos} => b.v (pos := pos) 6 "_law_change_here" (by decide +kernel)
  have v1 := fun {pos : Pos} => b.v (pos := pos) 1 "_law_handlers" (by decide +kernel)
  have v8 := fun {pos : Pos} => b.v (pos := pos) 8 "_law_pair" (by decide +kernel)
  have v9 := fun {pos : Pos} => b.v (pos := pos) 9 "_law_target" (by decide +kernel)
  have v10 := fun {pos : Pos} => b.v (pos := pos) 10 "_law_depth" (by decide +kernel)
  exact (Ss.cons (Body.setLc (own := [("_law_one", 11)]) true b nd 2 "_law_depths_here" (by decide +kernel) (I.any v0) (by decide +kernel) (CG.name (by decide)) (fun _ _ _ _ _ => blk_pg b.hN b.sc nd 11 "_law_one" (by decide +kernel)) (fun _ _ _ _ _ => Ts.nil) (fun _ _ _ _ _ => E.non))
  (Ss.cons (St.asg E.int (Tg.sub v2 E.int set_list set_lst))
  (Ss.cons (b.set nd 3 "_law_waiting" (by decide +kernel) (E.lst true (A.cons E.int A.nil)))
  (Ss.cons (St.whl b.po (B.gt (E.callB cr_len cf_len g_len z_len (by decide +kernel) (A.cons v3 A.nil)) E.int) (Ss.cons (b.set nd 4 "_law_index" (by decide +kernel) (E.bm0 PySem.F.plainAttrs_list PySem.F.slot_list_pop PySem.F.type_list_pop mt_pop mtf_pop (fun h => pe_bm0 PySem.F.plainAttrs_list PySem.F.slot_list_pop PySem.F.type_list_pop mt_pop h) v3))
  (Ss.cons (St.asg (E.call c_law_change b.room b.tk g_law_change (A.cons (E.ix v0 v4) A.nil)) (Tg.un b.calm (gns_cons (b.pg nd 5 "_law_removed" (by decide +kernel)) (gns_cons (b.pg nd 6 "_law_change_here" (by decide +kernel)) gns_nil))))
  (Ss.cons (St.ite (B.lt (E.ix v2 v4) v5) (Ss.one (St.ret E.non)) Ss.nil)
  (Ss.cons (b.set nd 7 "_law_pairs" (by decide +kernel) (E.lst true A.nil))
  (Ss.cons (St.ite (B.cmp (or_nin b.hu65) opf_nin (E.ix (E.ix v0 v4) E.int) (E.tup (A.cons E.str (A.cons E.str (A.cons E.str A.nil)))) (by with_unfolding_all rfl)) (Ss.one (St.expr (E.bm PySem.F.plainAttrs_list PySem.F.slot_list_append PySem.F.type_list_append mt_append mtf_append v7 (A.cons (E.lst false (A.cons (E.add false v4 E.int) (A.cons (E.add false (E.ix v2 v4) v6) A.nil))) A.nil)))) Ss.nil)
  (Ss.cons (St.ite (B.cmp (or_in b.hu65) opf_in (E.ix (E.ix v0 v4) E.int) (E.tup (A.cons E.str (A.cons E.str A.nil))) (by with_unfolding_all rfl)) (Ss.one (St.expr (E.bm PySem.F.plainAttrs_list PySem.F.slot_list_append PySem.F.type_list_append mt_append mtf_append v7 (A.cons (E.lst false (A.cons (E.ix (E.ix v0 v4) E.int) (A.cons (E.add false (E.ix v2 v4) v6) A.nil))) A.nil)))) Ss.nil)
  (Ss.cons (b.set nd 8 "_law_pair" (by decide +kernel) (E.call c_law_handler_depth b.room b.tk g_law_handler_depth (A.cons v0 (A.cons v1 (A.cons v4 A.nil)))))
  (Ss.cons (St.ite (B.notN v8) (Ss.cons (St.ite (B.lt (E.ix v2 v4) (E.ix v8 E.int)) (Ss.one (St.ret E.non)) Ss.nil)
  (Ss.one (St.expr (E.bm PySem.F.plainAttrs_list PySem.F.slot_list_append PySem.F.type_list_append mt_append mtf_append v7 (A.cons v8 A.nil))))) Ss.nil)
  (Ss.one (St.for b.po b.calm (I.any v7) (Tg.un b.calm (gns_cons (b.pg nd 9 "_law_target" (by decide +kernel)) (gns_cons (b.pg nd 10 "_law_depth" (by decide +kernel)) gns_nil))) (Ss.one (St.ite (B.isN (E.ix v2 v9)) (Ss.cons (St.asg v10 (Tg.sub v2 v9 set_list set_lst))
  (Ss.one (St.expr (E.bm PySem.F.plainAttrs_list PySem.F.slot_list_append PySem.F.type_list_append mt_append mtf_append v3 (A.cons v9 A.nil))))) (Ss.one (St.ite (B.ne b.hu (E.ix v2 v9) v10) (Ss.one (St.ret E.non)) Ss.nil)))))))))))))))
  (Ss.one (St.ret (E.callTy call_tuple_of cf_tuple g_tuple z_tuple (by decide +kernel) (A.cons v2 A.nil))))))))

theorem sc_law : FnScope ["_law_script", "_law_draws", "_law_code", "_law_lines", "_law_handlers", "_law_due", "_law_told", "_law_unit", "_law_index", "_law_at"] ["_law_script"] (defScope (topS 53)) := ⟨rfl, rfl, rfl, by decide +kernel, rfl, by decide +kernel, by decide +kernel⟩
theorem d_law {P : Program} {w : World} {K : PySem.W.Frag} {mg : Str → Option Value} {base : Heap} {f : Addr} {fd : FuncData} (F : FunD K "law" "law" (defArgs (topS 53)) (defBody (topS 53)) (defScope (topS 53)) [] [] f fd) (c_law_begin : Cal P w K mg base 1 "_law_begin" (spW ⟨K, mg⟩ f_law_begin)) (c_law_parts : Cal P w K mg base 16 "_law_parts" (spW ⟨K, mg⟩ f_law_parts)) (c_law_depths : Cal P w K mg base 2 "_law_depths" (spP ⟨K, mg⟩ f_law_depths)) (c_law_draw : Cal P w K mg base 1 "_law_draw" (spW ⟨K, mg⟩ f_law_draw)) (c_law_wild : Cal P w K mg base 3 "_law_wild" (spW ⟨K, mg⟩ f_law_wild)) (c_law_like : Cal P w K mg base 10 "_law_like" (spP ⟨K, mg⟩ (f_law_like 10))) (c_exits : Cal P w K mg base 3 "exits" (spP ⟨K, mg⟩ f_exits)) (c_law_exits : Cal P w K mg base 1 "_law_exits" (spP ⟨K, mg⟩ f_law_exits)) (z_len : mg "len" = none) (mk3_Unit : Mka P w K mg base 4 "Unit" i_Unit_init 3 []) (pr_Unit_depths : PropT K mg "Unit" "depths" "found_depths") (m_BadDepth : ExmT K mg "BadDepth" [("TableError", false), ("BadCode", false), ("FallsOff", false), ("BadDepth", true), ("BadInstruction", false), ("BadTarget", false), ("BadLine", false), ("BadHandler", false)]) (z_list : mg "list" = none) (z_range : mg "range" = none) : FnOk P w K mg base (L2.CX P w) 17 f fd ["_law_script"] (spP ⟨K, mg⟩ f_law) := by
  refine fnP F sc_law rfl rfl fun X W e1 e2 e3 e4 e5 b => ?_
  subst e1 e2 e3 e4 e5
  have nd := sc_law.nd
  have g_law_begin := b.gl "_law_begin" (by decide +kernel)
  have g_law_parts := b.gl "_law_parts" (by decide +kernel)
  have g_law_draw := b.gl "_law_draw" (by decide +kernel)
  have g_law_wild := b.gl "_law_wild" (by decide +kernel)
  have g_len := b.gl "len" (by decide +kernel)
  have g_law_depths := b.gl "_law_depths" (by decide +kernel)
  have g_Unit := b.gl "Unit" (by decide +kernel)
  have g_BadDepth := b.gl "BadDepth" (by decide +kernel)
  have g_list := b.gl "list" (by decide +kernel)
  have g_law_like := b.gl "_law_like" (by decide +kernel)
  have g_range := b.gl "range" (by decide +kernel)
  have g_exits := b.gl "exits" (by decide +kernel)
  have g_law_exits := b.gl "_law_exits" (by decide +kernel)
  have v0 := fun {pos : Pos} => b.v (pos := pos) 0 "_law_script" (by decide +kernel)
  have v1 := fun {pos : Pos} => b.v (pos := pos) 1 "_law_draws" (by decide +kernel)
  have v2 := fun {pos : Pos} => b.v (pos := pos) 2 "_law_code" (by decide +kernel)
  have v9 := fun {pos : Pos} => b.v (pos := pos) 9 "_law_at" (by decide +kernel)
  have v4 := fun {pos : Pos} => b.v (pos := pos) 4 "_law_handlers" (by decide +kernel)
  have v3 := fun {pos : Pos} => b.v (pos := pos) 3 "_law_lines" (by decide +kernel)
  have v7 := fun {pos : Pos} => b.v (pos := pos) 7 "_law_unit" (by decide +kernel)
  have v6 := fun {pos : Pos} => b.v (pos := pos) 6 "_law_told" (by decide +kernel)
  have v5 := fun {pos : Pos} => b.v (pos := pos) 5 "_law_due" (by decide +kernel)
  have v8 := fun {pos : Pos} => b.v (pos := pos) 8 "_law_index" (by decide +kernel)
  have t8 := fun {pos : Pos} => b.t (pos := pos) nd 8 "_law_index" (by decide +kernel)
  exact (Ss.cons (b.set nd 1 "_law_draws" (by decide +kernel) (E.callW c_law_begin b.room b.tk g_law_begin (A.cons v0 A.nil)))
  (Ss.cons (St.asg (E.callW c_law_parts b.room b.tk g_law_parts (A.cons v1 A.nil)) (Tg.un b.calm (gns_cons (b.pg nd 2 "_law_code" (by decide +kernel)) (gns_cons (b.pg nd 3 "_law_lines" (by decide +kernel)) (gns_cons (b.pg nd 4 "_law_handlers" (by decide +kernel)) gns_nil)))))
  (Ss.cons (St.ite (B.eq b.hu (E.callW c_law_draw b.room b.tk g_law_draw (A.cons v1 (A.cons E.int A.nil))) E.int) (Ss.one (St.asg (E.callW c_law_wild b.room b.tk g_law_wild (A.cons v1 A.nil)) (Tg.un b.calm (gns_cons (b.pg nd 2 "_law_code" (by decide +kernel)) (gns_cons (b.pg nd 3 "_law_lines" (by decide +kernel)) (gns_cons (b.pg nd 4 "_law_handlers" (by decide +kernel)) gns_nil)))))) (Ss.one (St.ite (B.eq b.hu (E.callW c_law_draw b.room b.tk g_law_draw (A.cons v1 (A.cons E.int A.nil))) E.int) (Ss.cons (b.set nd 9 "_law_at" (by decide +kernel) (E.callW c_law_draw b.room b.tk g_law_draw (A.cons v1 (A.cons (E.callB cr_len cf_len g_len z_len (by decide +kernel) (A.cons v2 A.nil)) A.nil))))
  (Ss.one (St.ite (B.lt v9 (E.sub (E.callB cr_len cf_len g_len z_len (by decide +kernel) (A.cons v2 A.nil)) E.int)) (Ss.one (St.asg (E.ix (E.lst false (A.cons (E.tup (A.cons E.str A.nil)) (A.cons (E.tup (A.cons E.str A.nil)) (A.cons (E.tup (A.cons E.str A.nil)) (A.cons (E.tup (A.cons E.str A.nil)) (A.cons (E.tup (A.cons E.str (A.cons E.int A.nil))) (A.cons (E.tup (A.cons E.str A.nil)) A.nil))))))) (E.callW c_law_draw b.room b.tk g_law_draw (A.cons v1 (A.cons E.int A.nil)))) (Tg.sub v2 v9 set_list set_lst))) Ss.nil))) Ss.nil)))
  (Ss.cons (b.set nd 5 "_law_due" (by decide +kernel) (E.call c_law_depths b.room b.tk g_law_depths (A.cons v2 (A.cons v4 A.nil))))
  (Ss.cons (b.set nd 6 "_law_told" (by decide +kernel) E.non)
  (Ss.cons (b.set nd 7 "_law_unit" (by decide +kernel) E.non)
  (Ss.cons (b.try (fun W pn xe b => by
  have nd := sc_law.nd
  have g_law_begin := b.gl "_law_begin" (by decide +kernel)
  have g_law_parts := b.gl "_law_parts" (by decide +kernel)
  have g_law_draw := b.gl "_law_draw" (by decide +kernel)
  have g_law_wild := b.gl "_law_wild" (by decide +kernel)
  have g_len := b.gl "len" (by decide +kernel)
  have g_law_depths := b.gl "_law_depths" (by decide +kernel)
  have g_Unit := b.gl "Unit" (by decide +kernel)
  have g_BadDepth := b.gl "BadDepth" (by decide +kernel)
  have g_list := b.gl "list" (by decide +kernel)
  have g_law_like := b.gl "_law_like" (by decide +kernel)
  have g_range := b.gl "range" (by decide +kernel)
  have g_exits := b.gl "exits" (by decide +kernel)
  have g_law_exits := b.gl "_law_exits" (by decide +kernel)
  have v0 := fun {pos : Pos} => b.v (pos := pos) 0 "_law_script" (by decide +kernel)
  have v1 := fun {pos : Pos} => b.v (pos := pos) 1 "_law_draws" (by decide +kernel)
  have v2 := fun {pos : Pos} => b.v (pos := pos) 2 "_law_code" (by decide +kernel)
  have v9 := fun {pos : Pos} => b.v (pos := pos) 9 "_law_at" (by decide +kernel)
  have v4 := fun {pos : Pos} => b.v (pos := pos) 4 "_law_handlers" (by decide +kernel)
  have v3 := fun {pos : Pos} => b.v (pos := pos) 3 "_law_lines" (by decide +kernel)
  have v7 := fun {pos : Pos} => b.v (pos := pos) 7 "_law_unit" (by decide +kernel)
  have v6 := fun {pos : Pos} => b.v (pos := pos) 6 "_law_told" (by decide +kernel)
  have v5 := fun {pos : Pos} => b.v (pos := pos) 5 "_law_due" (by decide +kernel)
  have v8 := fun {pos : Pos} => b.v (pos := pos) 8 "_law_index" (by decide +kernel)
  have t8 := fun {pos : Pos} => b.t (pos := pos) nd 8 "_law_index" (by decide +kernel)
  exact (Ss.cons (b.set nd 7 "_law_unit" (by decide +kernel) (E.make mk3_Unit b.room b.tk g_Unit (A.cons v2 (A.cons v3 (A.cons v4 A.nil)))))
  (Ss.one (b.set nd 6 "_law_told" (by decide +kernel) (E.prop pr_Unit_depths b.room v7))))) (Hds.cons g_BadDepth (by decide) m_BadDepth.1 m_BadDepth.2 (fun a oe pn => Ss.one (b.suSet nd 6 "_law_told" (by decide +kernel) E.non)) Hds.nil))
  (Ss.cons (St.ite (BW.t (BW.or (B.isN v5) (BW.or1 (B.isN v6)))) (Ss.one (St.ret (E.and (E.isN v5) (E.one (E.isN v6))))) Ss.nil)
  (Ss.cons (St.ite (BW.t (BW.or (B.not (B.tru (E.call c_law_like b.room b.tk g_law_like (A.cons v6 (A.cons v5 A.nil))))) (BW.or1 (B.not (B.tru (E.call c_law_like b.room b.tk g_law_like (A.cons (E.callTy call_list_of (cf_list (mu := false)) g_list z_list (by decide +kernel) (A.cons (E.prop pr_Unit_depths b.room v7) A.nil)) (A.cons (E.callTy call_list_of (cf_list (mu := false)) g_list z_list (by decide +kernel) (A.cons v5 A.nil)) A.nil)))))))) (Ss.one (St.ret E.bl)) Ss.nil)
  (Ss.cons (St.for b.po b.calm (I.r1 g_range z_range (A.cons (E.callB cr_len cf_len g_len z_len (by decide +kernel) (A.cons v2 A.nil)) A.nil)) t8 (Ss.one (St.ite (BW.t (BW.and (B.notN (E.ix v5 v8)) (BW.and1 (B.not (B.tru (E.call c_law_like b.room b.tk g_law_like (A.cons (E.call c_exits b.room b.tk g_exits (A.cons v7 (A.cons v8 A.nil))) (A.cons (E.call c_law_exits b.room b.tk g_law_exits (A.cons v2 (A.cons v4 (A.cons v8 A.nil)))) A.nil)))))))) (Ss.one (St.ret E.bl)) Ss.nil)))
  (Ss.one (St.ret E.bl))))))))))))
end Law

namespace Law
open PySem PySem.Spec PyProof.Rows L2 Pv
def dd_in_range : He.DefD := ⟨("in_range", none), "in_range", "in_range", defArgs (topS 20), defBody (topS 20), defScope (topS 20), [], []⟩
def dd_is_word : He.DefD := ⟨("is_word", none), "is_word", "is_word", defArgs (topS 21), defBody (topS 21), defScope (topS 21), [], []⟩
def dd_fits_form : He.DefD := ⟨("fits_form", none), "fits_form", "fits_form", defArgs (topS 22), defBody (topS 22), defScope (topS 22), [], []⟩
def dd_is_handler : He.DefD := ⟨("is_handler", none), "is_handler", "is_handler", defArgs (topS 23), defBody (topS 23), defScope (topS 23), [], []⟩
def dd_raised_kind : He.DefD := ⟨("raised_kind", none), "raised_kind", "raised_kind", defArgs (topS 24), defBody (topS 24), defScope (topS 24), [], []⟩
def dd_receiver : He.DefD := ⟨("receiver", none), "receiver", "receiver", defArgs (topS 25), defBody (topS 25), defScope (topS 25), [], []⟩
def dd_moves : He.DefD := ⟨("moves", none), "moves", "moves", defArgs (topS 27), defBody (topS 27), defScope (topS 27), [], []⟩
def dd_check_parts : He.DefD := ⟨("check_parts", none), "check_parts", "check_parts", defArgs (topS 28), defBody (topS 28), defScope (topS 28), [], []⟩
def dd_depths_of : He.DefD := ⟨("depths_of", none), "depths_of", "depths_of", defArgs (topS 29), defBody (topS 29), defScope (topS 29), [], []⟩
def dd_Unit_init : He.DefD := ⟨("Unit", some "__init__"), "__init__", "Unit.__init__", defArgs (clsS (topS 30) 0), defBody (clsS (topS 30) 0), defScope (clsS (topS 30) 0), [.adr (He.dflAt ("Unit", some "__init__") 0)], []⟩
def dd_exits : He.DefD := ⟨("exits", none), "exits", "exits", defArgs (topS 31), defBody (topS 31), defScope (topS 31), [], []⟩
def dd_law_begin : He.DefD := ⟨("_law_begin", none), "_law_begin", "_law_begin", defArgs (topS 33), defBody (topS 33), defScope (topS 33), [], []⟩
def dd_law_draw : He.DefD := ⟨("_law_draw", none), "_law_draw", "_law_draw", defArgs (topS 34), defBody (topS 34), defScope (topS 34), [], []⟩
def dd_law_number : He.DefD := ⟨("_law_number", none), "_law_number", "_law_number", defArgs (topS 36), defBody (topS 36), defScope (topS 36), [], []⟩
def dd_law_line : He.DefD := ⟨("_law_line", none), "_law_line", "_law_line", defArgs (topS 37), defBody (topS 37), defScope (topS 37), [], []⟩
def dd_law_value : He.DefD := ⟨("_law_value", none), "_law_value", "_law_value", defArgs (topS 38), defBody (topS 38), defScope (topS 38), [], []⟩
def dd_law_plain : He.DefD := ⟨("_law_plain", none), "_law_plain", "_law_plain", defArgs (topS 39), defBody (topS 39), defScope (topS 39), [], []⟩
def dd_law_choice : He.DefD := ⟨("_law_choice", none), "_law_choice", "_law_choice", defArgs (topS 40), defBody (topS 40), defScope (topS 40), [], []⟩
def dd_law_loop : He.DefD := ⟨("_law_loop", none), "_law_loop", "_law_loop", defArgs (topS 41), defBody (topS 41), defScope (topS 41), [], []⟩
def dd_law_guard : He.DefD := ⟨("_law_guard", none), "_law_guard", "_law_guard", defArgs (topS 42), defBody (topS 42), defScope (topS 42), [], []⟩
def dd_law_body : He.DefD := ⟨("_law_body", none), "_law_body", "_law_body", defArgs (topS 43), defBody (topS 43), defScope (topS 43), [], []⟩
def dd_law_parts : He.DefD := ⟨("_law_parts", none), "_law_parts", "_law_parts", defArgs (topS 44), defBody (topS 44), defScope (topS 44), [], []⟩
def dd_law_exits : He.DefD := ⟨("_law_exits", none), "_law_exits", "_law_exits", defArgs (topS 46), defBody (topS 46), defScope (topS 46), [], []⟩
def dd_law_like : He.DefD := ⟨("_law_like", none), "_law_like", "_law_like", defArgs (topS 48), defBody (topS 48), defScope (topS 48), [], []⟩
def dd_law_wild : He.DefD := ⟨("_law_wild", none), "_law_wild", "_law_wild", defArgs (topS 49), defBody (topS 49), defScope (topS 49), [], []⟩
def dd_law_change : He.DefD := ⟨("_law_change", none), "_law_change", "_law_change", defArgs (topS 50), defBody (topS 50), defScope (topS 50), [], []⟩
def dd_law_handler_depth : He.DefD := ⟨("_law_handler_depth", none), "_law_handler_depth", "_law_handler_depth", defArgs (topS 51), defBody (topS 51), defScope (topS 51), [], []⟩
def dd_law_depths : He.DefD := ⟨("_law_depths", none), "_law_depths", "_law_depths", defArgs (topS 52), defBody (topS 52), defScope (topS 52), [], []⟩
def dd_law : He.DefD := ⟨("law", none), "law", "law", defArgs (topS 53), defBody (topS 53), defScope (topS 53), [], []⟩
abbrev ini_BadInstruction : Stmt := clsS (topS 5) 0
def dd_ini_BadInstruction : He.DefD := ⟨("BadInstruction", some "__init__"), "__init__", "BadInstruction.__init__", defArgs ini_BadInstruction, defBody ini_BadInstruction, defScope ini_BadInstruction, [], []⟩
abbrev ini_BadTarget : Stmt := clsS (topS 6) 0
def dd_ini_BadTarget : He.DefD := ⟨("BadTarget", some "__init__"), "__init__", "BadTarget.__init__", defArgs ini_BadTarget, defBody ini_BadTarget, defScope ini_BadTarget, [], []⟩
abbrev ini_BadLine : Stmt := clsS (topS 7) 0
def dd_ini_BadLine : He.DefD := ⟨("BadLine", some "__init__"), "__init__", "BadLine.__init__", defArgs ini_BadLine, defBody ini_BadLine, defScope ini_BadLine, [], []⟩
abbrev ini_BadHandler : Stmt := clsS (topS 8) 0
def dd_ini_BadHandler : He.DefD := ⟨("BadHandler", some "__init__"), "__init__", "BadHandler.__init__", defArgs ini_BadHandler, defBody ini_BadHandler, defScope ini_BadHandler, [], []⟩
def fnL : List He.DefD := [dd_in_range, dd_is_word, dd_fits_form, dd_is_handler, dd_raised_kind, dd_receiver, dd_moves, dd_check_parts, dd_depths_of, dd_Unit_init, dd_exits, dd_law_begin, dd_law_draw, dd_law_number, dd_law_line, dd_law_value, dd_law_plain, dd_law_choice, dd_law_loop, dd_law_guard, dd_law_body, dd_law_parts, dd_law_exits, dd_law_like, dd_law_wild, dd_law_change, dd_law_handler_depth, dd_law_depths, dd_law, dd_ini_BadInstruction, dd_ini_BadTarget, dd_ini_BadLine, dd_ini_BadHandler]
def faL : List He.Fa := ([.glo "in_range", .glo "is_word", .glo "fits_form", .glo "is_handler", .glo "raised_kind", .glo "receiver", .glo "moves", .glo "check_parts", .glo "depths_of", .glo "Unit", .glo "exits", .glo "_law_begin", .glo "_law_draw", .glo "_law_number", .glo "_law_line", .glo "_law_value", .glo "_law_plain", .glo "_law_choice", .glo "_law_loop", .glo "_law_guard", .glo "_law_body", .glo "_law_parts", .glo "_law_exits", .glo "_law_like", .glo "_law_wild", .glo "_law_change", .glo "_law_handler_depth", .glo "_law_depths", .glo "law", .free "bool"] : List He.Fa) ++ ([.free "isinstance", .free "int", .free "len", .free "str", .free "tuple", .free "enumerate", .free "max", .free "range", .free "sorted", .free "list", .free "set", .str "LETTERS" c_LETTERS, .glo "PLAIN", .glo "NAMED", .glo "JUMPS", .glo "LAST", .int "GREATEST" c_GREATEST, .int "LINES" c_LINES, .int "MOST" c_MOST] : List He.Fa)
def tsL : List He.Tab := [(fun K => He.ga K "REMOVED", ["store", "pop", "copy", "add", "sub", "div", "less", "not", "print", "jumpif"]), (fun K => He.ga K "PUSHED", ["const", "load", "copy", "add", "sub", "div", "less", "not"])]
def exB (K : PySem.W.Frag) : Bool := (He.tupB K "PLAIN" (c_PLAIN.map fun s => .str s) && (He.tupB K "NAMED" (c_NAMED.map fun s => .str s) && (He.tupB K "JUMPS" (c_JUMPS.map fun s => .str s) && (He.tupB K "LAST" (c_LAST.map fun s => .str s) && (excB K "BadCode" && (excB K "FallsOff" && (excB K "BadDepth" && (oexB K "BadInstruction" "index" && (oexB K "BadTarget" "index" && (oexB K "BadLine" "index" && (oexB K "BadHandler" "index" && (exmB K "BadDepth" [("TableError", false), ("BadCode", false), ("FallsOff", false), ("BadDepth", true), ("BadInstruction", false), ("BadTarget", false), ("BadLine", false), ("BadHandler", false)] && (He.Fa.ok K (.glo "REMOVED") && (mapB K "REMOVED" c_REMOVED && (He.Fa.ok K (.glo "PUSHED") && (mapB K "PUSHED" c_PUSHED && (attB K "Unit" "code" && (attB K "Unit" "lines" && (attB K "Unit" "handlers" && (attB K "Unit" "found_depths" && (propB K "Unit" "depths" "found_depths" && (He.Fa.ok K (.glo "Unit") && (He.Fa.ok K (.mkr "Unit") && (dfTB K ("Unit", some "__init__") 0 && true))))))))))))))))))))))))
def looseL : List PySem.Str := (["TableError", "BadCode", "FallsOff", "BadDepth", "BadInstruction", "BadTarget", "BadLine", "BadHandler", "LETTERS", "PLAIN", "NAMED", "JUMPS", "LAST", "REMOVED", "PUSHED", "GREATEST", "LINES", "MOST", "in_range", "is_word", "fits_form", "is_handler", "raised_kind", "receiver", "moves", "check_parts", "depths_of", "Unit", "exits", "_law_begin"] : List PySem.Str) ++ (["_law_draw", "_law_word", "_law_number", "_law_line", "_law_value", "_law_plain", "_law_choice", "_law_loop", "_law_guard", "_law_body", "_law_parts", "_law_inputs", "_law_exits", "_law_sets", "_law_like", "_law_wild", "_law_change", "_law_handler_depth", "_law_depths"] : List PySem.Str)
abbrev RR : PySem.W.OpenRow := PySem.W.OpenLaw.row PySem.Challenge.rw_codetables_k03_whole_depths
abbrev hk : PySem.W.Hook := He.hookX 6 faL fnL tsL [] exB
def ob (s : PySem.W.SharedT) : He.AlX := He.obsX 6 faL fnL tsL [] exB (HandSHeadRun.getT s)
theorem ob_eq (s : PySem.W.SharedT) : ob s = hk.obs s.abs := He.obsX_eq (HandSHeadRun.getT_eq s)
theorem run_t (w : World) : HandSHeadRun.RunEq RR (PySem.W.view RR.prog [53]) hk ob 9000 looseL (w.withFollow "special-get-raises" true) := by
  intro os
  kernel_rfl
theorem run_f (w : World) : HandSHeadRun.RunEq RR (PySem.W.view RR.prog [53]) hk ob 9000 looseL (w.withFollow "special-get-raises" false) := by
  intro os
  kernel_rfl
theorem run (w : World) : HandSHeadRun.RunEq RR (PySem.W.view RR.prog [53]) hk ob 9000 looseL w := by
  have h : ∀ b, HandSHeadRun.RunEq RR (PySem.W.view RR.prog [53]) hk ob 9000 looseL (w.withFollow "special-get-raises" b) := fun b => by
    cases b with
    | true => exact run_t w
    | false => exact run_f w
  have := h (w.params.followText "special-get-raises")
  rwa [World.withFollow_self] at this
end Law

namespace Law
open PySem PySem.Spec PyProof.Rows L2 Pv
/-! ### the draws -/
abbrev drL (ns : List Int) (a : Nat) (h s : Int) : List PV := [.con .own .lst (ns.map PV.int), .int a, .int h, .int s]
abbrev drO (ns : List Int) (a : Nat) (h s : Int) : Option (Kd × List PV) := some (.lst, drL ns a h s)
theorem draw_r3 (S : Sto) (n : Nat) (ns : List Int) (m : Int) (x : Option PV) (a : Nat) (h s : Int) (hl : n < S.length) (h0 : 0 ≤ h) (hm : 0 < m) (hm2 : m < 1073741824) :
    ∃ r a' h' s', ruwK (r3_law_draw [some (.ref n), some (.int m), none, x] (S.set n (drO ns a h s))) = .ok (.int r) (S.set n (drO ns a' h' s')) ∧ 0 ≤ r ∧ r < m ∧ 0 ≤ h' := by
  by_cases hp : 0 < h
  · refine ⟨h % m, a, h / m, s, ?_, Int.emod_nonneg _ (by omega), Int.emod_lt_of_pos _ hm, Int.ediv_nonneg h0 (by omega)⟩
    simp [r3_law_draw, i1_law_draw, r2_law_draw, hl, atI, ixN, hp, hm, CDiv, hm2]
  · refine ⟨(s * 16807) % 2147483629 % m, a, h, s, ?_, Int.emod_nonneg _ (by omega), Int.emod_lt_of_pos _ hm, h0⟩
    simp [r3_law_draw, i1_law_draw, r2_law_draw, hl, atI, ixN, hp, hm, CMul]
theorem draw_ok (S : Sto) (n : Nat) (ns : List Int) (a : Nat) (h s m : Int) (hn : S[n]? = some (drO ns a h s)) (h0 : 0 ≤ h) (hm : 0 < m) (hm2 : m < 1073741824) :
    ∃ r a' h' s', f_law_draw [.ref n, .int m] S = .ok (.int r) (S.set n (drO ns a' h' s')) ∧ 0 ≤ r ∧ r < m ∧ 0 ≤ h' := by
  have hl : n < S.length := (List.getElem?_eq_some_iff.mp hn).1
  have hg : S[n]'hl = drO ns a h s := (List.getElem?_eq_some_iff.mp hn).2
  have go : ∃ x a1 h1 s1, 0 ≤ h1 ∧ f_law_draw [.ref n, .int m] S = ruwK (r3_law_draw [some (.ref n), some (.int m), none, x] (S.set n (drO ns a1 h1 s1))) := by
    unfold f_law_draw
    rw [runW_eq (np := 2) rfl]
    unfold body_law_draw
    by_cases hz : h = 0
    · subst hz
      by_cases ha : a < ns.length
      · by_cases hb : 1000000000000000000 ≤ ns[a]
        · refine ⟨some (.int ns[a]), a + 1, ns[a], s, by omega, ?_⟩
          simp [i0_law_draw, hg, hl, atI, ixN, ha, hb, CPow, drO, drL]
        · refine ⟨some (.int ns[a]), a + 1, 0, (s * 48271 + ns[a] * 69621 + 11) % 2147483647, by omega, ?_⟩
          simp [i0_law_draw, hg, hl, atI, ixN, ha, hb, CPow, CMul, drO, drL]
      · refine ⟨none, a, 0, (s * 48271 + 7) % 2147483647, by omega, ?_⟩
        simp [i0_law_draw, hg, hl, atI, ixN, ha, CPow, CMul]
    · refine ⟨none, a, h, s, h0, ?_⟩
      have e : S.set n (drO ns a h s) = S := by
        apply List.ext_getElem?
        intro i
        by_cases q : n = i
        · subst q; rw [List.getElem?_set_self hl, hn]
        · rw [List.getElem?_set_ne q]
      rw [e]
      simp [hg, hl, atI, ixN, hz]
  obtain ⟨x, a1, h1, s1, q1, q2⟩ := go
  rw [q2]
  exact draw_r3 S n ns m x a1 h1 s1 hl q1 hm hm2
end Law

namespace Law
open PySem PySem.Spec PyProof.Rows L2 Pv
/-- the draws stand at n -/
def DR (n : Nat) (ns : List Int) (S : Sto) : Prop := ∃ a h s, S[n]? = some (drO ns a h s) ∧ 0 ≤ h
/-- nothing but the draws changed -/
def Fr (n : Nat) (S S' : Sto) : Prop := S'.length = S.length ∧ ∀ i, i ≠ n → S'[i]? = S[i]?
theorem Fr.refl {n : Nat} {S : Sto} : Fr n S S := ⟨rfl, fun _ _ => rfl⟩
theorem Fr.trans {n : Nat} {S S1 S2 : Sto} (h : Fr n S S1) (h2 : Fr n S1 S2) : Fr n S S2 := ⟨h2.1.trans h.1, fun i q => (h2.2 i q).trans (h.2 i q)⟩
theorem draw {S : Sto} {n : Nat} {ns : List Int} (d : DR n ns S) (m : Int) (hm : 0 < m) (hm2 : m < 1073741824) :
    ∃ r S', f_law_draw [.ref n, .int m] S = .ok (.int r) S' ∧ 0 ≤ r ∧ r < m ∧ DR n ns S' ∧ Fr n S S' := by
  obtain ⟨a, h, s, e, h0⟩ := d
  obtain ⟨r, a', h', s', q, r0, r1, q0⟩ := draw_ok S n ns a h s m e h0 hm hm2
  have hl : n < S.length := (List.getElem?_eq_some_iff.mp e).1
  refine ⟨r, _, q, r0, r1, ⟨a', h', s', List.getElem?_set_self hl, q0⟩, List.length_set, fun i hi => List.getElem?_set_ne (Ne.symm hi)⟩
theorem begin_ok (ns : List Int) (S : Sto) (h : ns.length ≤ 63) : f_law_begin [scr ns] S = .ok (.ref S.length) (S ++ [drO ns 0 0 7]) := by
  unfold f_law_begin
  rw [runW_eq (np := 1) rfl]
  simp [body_law_begin, scr, listF, newP, szl, drO, drL]
end Law

/-! W1: what a mirror gives, by its form (a small calculus of wishes). -/
namespace Pv
open PySem PySem.Spec PyProof.Rows L2
/-- r is a value, Q of it -/
def okR {α : Type} (r : R α) (Q : α → Sto → Prop) : Prop := match r with
  | .ok v S => Q v S
  | _ => False
theorem okR.eq {α : Type} {r : R α} {Q : α → Sto → Prop} (h : okR r Q) : ∃ v S, r = .ok v S ∧ Q v S := by
  cases r with
  | ok v S => exact ⟨v, S, rfl, h⟩
  | ex c fs S => exact h.elim
  | bad => exact h.elim
theorem okR.mono {α : Type} {r : R α} {Q Q' : α → Sto → Prop} (h : okR r Q) (k : ∀ v S, Q v S → Q' v S) : okR r Q' := by
  cases r with
  | ok v S => exact k v S h
  | ex c fs S => exact h
  | bad => exact h
theorem okR.bind {α β : Type} {r : R α} {k : α → Sto → R β} {Q : β → Sto → Prop} (h : okR r fun v S => okR (k v S) Q) : okR (r.bind k) Q := by
  cases r with
  | ok v S => exact h
  | ex c fs S => exact h
  | bad => exact h
theorem okR.of {α : Type} {r : R α} {v : α} {S : Sto} {Q : α → Sto → Prop} (e : r = .ok v S) (h : Q v S) : okR r Q := by rw [e]; exact h
/-- what a statement comes to -/
def rsP (r : RS) (P : RS → Prop) : Prop := P r
def thenS (u : SF) (P : RS → Prop) : RS → Prop
  | .nx Γ S => P (u Γ S)
  | r => P r
section
variable {Γ : Gam} {S : Sto} {P : RS → Prop} {t u : SF} {a b c : EF} {as : AF} {i : Nat} {v : PV} {Q : PV → Sto → Prop} {Qs : List PV → Sto → Prop}
theorem W.seq (h : rsP (t Γ S) (thenS u P)) : rsP (sSeq t u Γ S) P := by
  unfold rsP sSeq at *
  cases e : t Γ S with
  | nx Γ1 S1 => rw [e] at h; exact h
  | _ => rw [e] at h; exact h
theorem W.go (h : rsP (u Γ S) P) : rsP (.nx Γ S) (thenS u P) := h
theorem rsP.mono {r : RS} {P' : RS → Prop} (h : rsP r P) (k : ∀ r, P r → P' r) : rsP r P' := k _ h
theorem W.st {α : Type} {r : R α} {k : α → Sto → RS} (h : okR r fun v S1 => rsP (k v S1) P) : rsP (r.st Γ k) P := by
  cases r with
  | ok v S => exact h
  | ex c fs S => exact h.elim
  | bad => exact h.elim
theorem W.set (h : okR (a Γ S) fun v S1 => rsP (.nx (Γ.set i (some v)) S1) P) : rsP (sSet i a Γ S) P := W.st h
theorem W.expr (h : okR (a Γ S) fun _ S1 => rsP (.nx Γ S1) P) : rsP (sExpr a Γ S) P := W.st h
theorem W.ret (h : okR (a Γ S) fun v S1 => rsP (.rt v S1) P) : rsP (sRet a Γ S) P := W.st h
theorem W.asg {g : GF} (h : okR (a Γ S) fun v S1 => okR (g v Γ S1) fun Γ1 S2 => rsP (.nx Γ1 S2) P) : rsP (sAsg a g Γ S) P := W.st (h.mono fun _ _ h => W.st h)
theorem W.ite {s : BF} (h : okR (s Γ S) fun k S1 => (k = true → rsP (t Γ S1) P) ∧ (k = false → rsP (u Γ S1) P)) : rsP (sIf s t u Γ S) P := W.st (h.mono fun k S1 h => by
  cases k with
  | true => exact h.1 rfl
  | false => exact h.2 rfl)
theorem W.next (h : rsP (.nx Γ S) P) : rsP (sNext Γ S) P := h
theorem W.var (h : Γ[i]? = some (some v)) (q : Q v S) : okR (eV i Γ S) Q := by unfold eV; rw [h]; exact q
theorem W.con (q : Q v S) : okR (eC v Γ S) Q := q
theorem W.nil (q : Qs [] S) : okR (aNil Γ S) Qs := q
theorem W.cons (h : okR (a Γ S) fun v S1 => okR (as Γ S1) fun vs S2 => Qs (v :: vs) S2) : okR (aCons a as Γ S) Qs := okR.bind (h.mono fun _ _ h => okR.bind h)
theorem W.tup (h : okR (as Γ S) fun vs S1 => vs.length ≤ sizeLine ∧ Q (.con .own .tup vs) S1) : okR (eTup as Γ S) Q := okR.bind (h.mono fun vs S1 h => by rw [if_pos h.1]; exact h.2)
theorem W.lstF (h : okR (as Γ S) fun vs S1 => vs.length ≤ sizeLine ∧ Q (.con .own .lst vs) S1) : okR (eLst false as Γ S) Q := okR.bind (h.mono fun vs S1 h => by rw [if_pos h.1]; exact h.2)
theorem W.lstT (h : okR (as Γ S) fun vs S1 => vs.length ≤ sizeLine ∧ Q (.ref S1.length) (S1 ++ [some (.lst, vs)])) : okR (eLst true as Γ S) Q := okR.bind (h.mono fun vs S1 h => by rw [if_pos h.1]; exact h.2)
theorem W.op {f : OF} (h : okR (a Γ S) fun x S1 => okR (b Γ S1) fun y S2 => ∃ z S3, f x y S2 = some (z, S3) ∧ Q z S3) : okR (eOp f a b Γ S) Q := okR.bind (h.mono fun x S1 h => okR.bind (h.mono fun y S2 ⟨z, S3, e, q⟩ => by rw [e]; exact q))
theorem W.call {f : CF} (h : okR (as Γ S) fun vs S1 => ∃ z S3, f vs S1 = some (z, S3) ∧ Q z S3) : okR (eCall f as Γ S) Q := okR.bind (h.mono fun vs S1 ⟨z, S3, e, q⟩ => by rw [e]; exact q)
theorem W.callW {f : List PV → Sto → R PV} (h : okR (as Γ S) fun vs S1 => okR (f vs S1) Q) : okR (eCallW f as Γ S) Q := okR.bind h
theorem W.meth {T : String} {f : MF} (h : okR (a Γ S) fun p S1 => tyP T S1 p = true ∧ okR (as Γ S1) fun vs S2 => ∃ z S3, f p vs S2 = some (z, S3) ∧ Q z S3) : okR (eM T f a as Γ S) Q := okR.bind (h.mono fun p S1 h => by
  rw [if_pos h.1]
  exact okR.bind (h.2.mono fun vs S2 ⟨z, S3, e, q⟩ => by rw [e]; exact q))
section
variable {s s' : BF} {B : Bool → Sto → Prop}
theorem W.bE (h : okR (a Γ S) fun v S1 => ∃ k, v = .bl k ∧ B k S1) : okR (bE a Γ S) B := okR.bind (h.mono fun v S1 ⟨k, e, q⟩ => by rw [e]; exact q)
theorem W.or (h : okR (s Γ S) fun k S1 => (k = true → B true S1) ∧ (k = false → okR (s' Γ S1) B)) : okR (bOr s s' Γ S) B := okR.bind (h.mono fun k S1 h => by
  cases k with
  | true => exact h.1 rfl
  | false => exact h.2 rfl)
theorem W.and (h : okR (s Γ S) fun k S1 => (k = true → okR (s' Γ S1) B) ∧ (k = false → B false S1)) : okR (bAnd s s' Γ S) B := okR.bind (h.mono fun k S1 h => by
  cases k with
  | true => exact h.1 rfl
  | false => exact h.2 rfl)
theorem W.not (h : okR (s Γ S) fun k S1 => B (!k) S1) : okR (bNot s Γ S) B := okR.bind h
end
/-- a def that changes its arguments -/
theorem W.run {np n : Nat} {body : SF} {args : List PV} (hl : args.length = np) (h : rsP (body (args.map some ++ List.replicate (n - args.length) none) S) fun r => match r with
    | .nx _ S' => Q .non S'
    | .rt v S' => Q v S'
    | _ => False) : okR (runW np n body args S) Q := by
  unfold runW
  rw [if_pos hl]
  unfold rsP at h
  cases e : body (args.map some ++ List.replicate (n - args.length) none) S with
  | nx Γ S' => rw [e] at h; exact h
  | rt v S' => rw [e] at h; exact h
  | _ => rw [e] at h; exact h.elim
/-- whole numbers compared -/
theorem W.cmpI {f : Int → Int → Bool} (h : okR (a Γ S) fun x S1 => okR (b Γ S1) fun y S2 => ∃ i j : Int, x = .int i ∧ y = .int j ∧ Q (.bl (f i j)) S2) : okR (eOp (iOp0 fun i j => .bl (f i j)) a b Γ S) Q := W.op (h.mono fun x S1 h => h.mono fun y S2 ⟨i, j, e1, e2, q⟩ => ⟨_, _, by rw [e1, e2]; rfl, q⟩)
theorem W.eqI (h : okR (a Γ S) fun x S1 => okR (b Γ S1) fun y S2 => ∃ i j : Int, x = .int i ∧ y = .int j ∧ Q (.bl (decide (i = j))) S2) : okR (eOp eqF a b Γ S) Q := W.op (h.mono fun x S1 h => h.mono fun y S2 ⟨i, j, e1, e2, q⟩ => ⟨.bl (decide (i = j)), S2, by rw [e1, e2]; simp, q⟩)
end
end Pv
namespace Pv
open PySem PySem.Spec PyProof.Rows L2
section
variable {Γ : Gam} {S : Sto} {P : RS → Prop} {t u : SF} {i : Nat} {x y : Int} {Q : PV → Sto → Prop}
theorem W.iteLe (hi : Γ[i]? = some (some (.int x))) (h1 : x ≤ y → rsP (t Γ S) P) (h2 : ¬ x ≤ y → rsP (u Γ S) P) : rsP (sIf (Pv.bE (eOp leF (eV i) (eC (.int y)))) t u Γ S) P :=
  W.ite (W.bE (W.cmpI (f := fun i j => decide (i ≤ j)) (W.var hi (W.con ⟨x, y, rfl, rfl, _, rfl, fun h => h1 (of_decide_eq_true h), fun h => h2 (of_decide_eq_false h)⟩))))
theorem W.iteEq (hi : Γ[i]? = some (some (.int x))) (h1 : x = y → rsP (t Γ S) P) (h2 : ¬ x = y → rsP (u Γ S) P) : rsP (sIf (Pv.bE (eOp eqF (eV i) (eC (.int y)))) t u Γ S) P :=
  W.ite (W.bE (W.eqI (W.var hi (W.con ⟨x, y, rfl, rfl, _, rfl, fun h => h1 (of_decide_eq_true h), fun h => h2 (of_decide_eq_false h)⟩))))
end
end Pv

/-! Gd: programs as data: instructions, rows, handlers, depths. -/
namespace Law
open PySem PySem.Spec Pv
inductive Opc where
  | pop | copy | add | sub | div | less | not | print | skip | stop
def Opc.name : Opc → Str
  | .pop => "pop" | .copy => "copy" | .add => "add" | .sub => "sub" | .div => "div" | .less => "less" | .not => "not" | .print => "print" | .skip => "skip" | .stop => "end"
inductive Itr where
  | c (n : Int) | ld (w : Str) | sto (w : Str) | op (o : Opc) | fl (w : Str) | jp (t : Nat) | ji (t : Nat)
def Itr.pv : Itr → PV
  | .c n => .con .own .tup [.str "const", .int n]
  | .ld w => .con .own .tup [.str "load", .str w]
  | .sto w => .con .own .tup [.str "store", .str w]
  | .op o => .con .own .tup [.str o.name]
  | .fl w => .con .own .tup [.str "fail", .str w]
  | .jp t => .con .own .tup [.str "jump", .int t]
  | .ji t => .con .own .tup [.str "jumpif", .int t]
def Itr.rem : Itr → Nat
  | .c _ => 0 | .ld _ => 0 | .sto _ => 1 | .fl _ => 0 | .jp _ => 0 | .ji _ => 1
  | .op o => match o with
    | .pop => 1 | .copy => 1 | .add => 2 | .sub => 2 | .div => 2 | .less => 2 | .not => 1 | .print => 1 | .skip => 0 | .stop => 0
def Itr.push : Itr → Nat
  | .c _ => 1 | .ld _ => 1 | .sto _ => 0 | .fl _ => 0 | .jp _ => 0 | .ji _ => 0
  | .op o => match o with
    | .pop => 0 | .copy => 2 | .add => 1 | .sub => 1 | .div => 1 | .less => 1 | .not => 1 | .print => 0 | .skip => 0 | .stop => 0
/-- nothing leads on to the next -/
def Itr.last : Itr → Bool
  | .fl _ => true | .jp _ => true
  | .op o => match o with
    | .stop => true
    | _ => false
  | _ => false
def Itr.tgt : Itr → Option Nat
  | .jp t => some t | .ji t => some t
  | _ => none
/-- a variable, a kind of error: 1 to 8 small letters -/
def WdOk (w : Str) : Prop := 1 ≤ w.cps.toList.length ∧ w.cps.toList.length ≤ 8 ∧ ∀ c ∈ w.cps.toList, 97 ≤ c ∧ c ≤ 122
instance (w : Str) : Decidable (WdOk w) := inferInstanceAs (Decidable (_ ∧ _ ∧ _))
/-- its own values are as the document lists them -/
def Itr.good : Itr → Prop
  | .c n => -1000000000000000000000000000000 ≤ n ∧ n ≤ 1000000000000000000000000000000
  | .ld w => WdOk w
  | .sto w => WdOk w
  | .fl w => WdOk w
  | _ => True
structure Rw where
  i : Itr
  l : Nat
def Rw.pv (r : Rw) : PV := .con .own .lst [r.i.pv, .int r.l]
def Rw.good (r : Rw) : Prop := r.i.good ∧ r.l ≤ 1000000
structure Hnd where
  s : Nat
  e : Nat
  t : Nat
  d : Nat
  k : Option Str
def okP : Option Str → PV
  | none => .non
  | some w => .str w
def Hnd.pv (h : Hnd) : PV := .con .own .tup [.int h.s, .int h.e, .int h.t, .int h.d, okP h.k]
def Hnd.good (h : Hnd) : Prop := ∀ w, h.k = some w → WdOk w
/-- the row at place j, between lo and hi, agrees with the depths D -/
structure RwOk (lo hi : Nat) (D : Nat → Nat) (j : Nat) (r : Rw) : Prop where
  good : r.good
  rem : r.i.rem ≤ D j
  nxt : r.i.last = false → D (j + 1) = D j - r.i.rem + r.i.push
  tgt : ∀ t, r.i.tgt = some t → lo ≤ t ∧ t ≤ hi ∧ D t = D j - r.i.rem + r.i.push
structure HndOk (lo hi : Nat) (D : Nat → Nat) (h : Hnd) : Prop where
  good : h.good
  s0 : lo ≤ h.s
  se : h.s < h.e
  e1 : h.e ≤ hi
  t0 : lo ≤ h.t
  t1 : h.t ≤ hi
  dt : D h.t = h.d
  cov : ∀ j, h.s ≤ j → j < h.e → h.d ≤ D j
/-- a stretch of rows from place a on, its handlers, its depths -/
structure Sgm (a : Nat) (rs : List Rw) (hs : List Hnd) (D : Nat → Nat) : Prop where
  row : ∀ i r, rs[i]? = some r → RwOk a (a + rs.length) D (a + i) r
  hd : ∀ h ∈ hs, HndOk a (a + rs.length) D h
/-- a stretch that begins with depth b and ends with depth e; never less than f -/
def Blk (f a b e : Nat) (rs : List Rw) (hs : List Hnd) : Prop := ∃ D, Sgm a rs hs D ∧ D a = b ∧ D (a + rs.length) = e ∧ ∀ j, a ≤ j → j < a + rs.length → f ≤ D j
/-- rows from place a on within a greater stretch -/
structure Sg (lo hi a : Nat) (rs : List Rw) (hs : List Hnd) (D : Nat → Nat) : Prop where
  row : ∀ i r, rs[i]? = some r → RwOk lo hi D (a + i) r
  hd : ∀ h ∈ hs, HndOk lo hi D h
theorem RwOk.mono {lo hi lo' hi' : Nat} {D D' : Nat → Nat} {j : Nat} {r : Rw} (h : RwOk lo hi D j r) (h1 : lo' ≤ lo) (h2 : hi ≤ hi') (hj : lo ≤ j ∧ j < hi) (e : ∀ i, lo ≤ i → i ≤ hi → D' i = D i) : RwOk lo' hi' D' j r := by
  refine ⟨h.good, ?_, fun z => ?_, fun t z => ?_⟩
  · rw [e j hj.1 (by omega)]; exact h.rem
  · rw [e j hj.1 (by omega), e (j + 1) (by omega) (by omega)]; exact h.nxt z
  · obtain ⟨t1, t2, t3⟩ := h.tgt t z
    exact ⟨by omega, by omega, by rw [e j hj.1 (by omega), e t t1 t2]; exact t3⟩
theorem HndOk.mono {lo hi lo' hi' : Nat} {D D' : Nat → Nat} {x : Hnd} (h : HndOk lo hi D x) (h1 : lo' ≤ lo) (h2 : hi ≤ hi') (e : ∀ i, lo ≤ i → i ≤ hi → D' i = D i) : HndOk lo' hi' D' x := by
  obtain ⟨g, a1, a2, a3, a4, a5, a6, a7⟩ := h
  exact ⟨g, by omega, a2, by omega, by omega, by omega, by rw [e x.t a4 (by omega)]; exact a6, fun j j1 j2 => by rw [e j (by omega) (by omega)]; exact a7 j j1 j2⟩
theorem Sg.app {lo hi a : Nat} {rs rs' : List Rw} {hs hs' : List Hnd} {D : Nat → Nat} (h : Sg lo hi a rs hs D) (h' : Sg lo hi (a + rs.length) rs' hs' D) : Sg lo hi a (rs ++ rs') (hs ++ hs') D := by
  refine ⟨fun i r q => ?_, fun x q => ?_⟩
  · by_cases z : i < rs.length
    · rw [List.getElem?_append_left z] at q
      exact h.row i r q
    · rw [List.getElem?_append_right (by omega)] at q
      have h1 := h'.row _ r q
      rw [show a + rs.length + (i - rs.length) = a + i by omega] at h1
      exact h1
  · rcases List.mem_append.mp q with q | q
    · exact h.hd x q
    · exact h'.hd x q
theorem Sg.of {lo hi a : Nat} {rs : List Rw} {hs : List Hnd} {D D' : Nat → Nat} (h : Sgm a rs hs D') (h1 : lo ≤ a) (h2 : a + rs.length ≤ hi) (e : ∀ i, a ≤ i → i ≤ a + rs.length → D i = D' i) : Sg lo hi a rs hs D :=
  ⟨fun i r q => (h.row i r q).mono h1 h2 ⟨by omega, by have := (List.getElem?_eq_some_iff.mp q).1; omega⟩ e, fun x q => (h.hd x q).mono h1 h2 e⟩
theorem Sg.one {lo hi a : Nat} {r : Rw} {D : Nat → Nat} (h : RwOk lo hi D a r) : Sg lo hi a [r] [] D := by
  refine ⟨fun i x q => ?_, fun x q => by simp at q⟩
  cases i with
  | zero => cases q; exact h
  | succ i => simp at q
theorem Blk.of {f a b e : Nat} {rs : List Rw} {hs : List Hnd} {D : Nat → Nat} (h : Sg a (a + rs.length) a rs hs D) (h1 : D a = b) (h2 : D (a + rs.length) = e) (h3 : ∀ j, a ≤ j → j < a + rs.length → f ≤ D j) : Blk f a b e rs hs := ⟨D, ⟨h.row, h.hd⟩, h1, h2, h3⟩
theorem Blk.nil {f a b : Nat} : Blk f a b b [] [] := ⟨fun _ => b, ⟨fun i r h => by simp at h, fun h q => by simp at q⟩, rfl, rfl, fun j h1 h2 => by simp at h2; omega⟩
theorem Blk.floor {f f' a b e : Nat} {rs : List Rw} {hs : List Hnd} (h : Blk f a b e rs hs) (k : f' ≤ f) : Blk f' a b e rs hs := by
  obtain ⟨D, s, d1, d2, d3⟩ := h
  exact ⟨D, s, d1, d2, fun j h1 h2 => Nat.le_trans k (d3 j h1 h2)⟩
theorem Blk.app {f a b m e : Nat} {rs rs' : List Rw} {hs hs' : List Hnd} (h : Blk f a b m rs hs) (h' : Blk f (a + rs.length) m e rs' hs') : Blk f a b e (rs ++ rs') (hs ++ hs') := by
  obtain ⟨D, s, d1, d2, d3⟩ := h
  obtain ⟨D', s', d1', d2', d3'⟩ := h'
  have hl : (rs ++ rs').length = rs.length + rs'.length := List.length_append
  have e1 : ∀ i, a ≤ i → i ≤ a + rs.length → (if i < a + rs.length then D i else D' i) = D i := fun i _ h2 => by
    by_cases z : i < a + rs.length
    · rw [if_pos z]
    · have : i = a + rs.length := by omega
      subst this
      rw [if_neg z, d2, d1']
  have e2 : ∀ i, a + rs.length ≤ i → i ≤ a + rs.length + rs'.length → (if i < a + rs.length then D i else D' i) = D' i := fun i h1 _ => if_neg (by omega)
  refine Blk.of (D := fun i => if i < a + rs.length then D i else D' i) ((Sg.of s (Nat.le_refl _) (by omega) e1).app (Sg.of s' (by omega) (by omega) e2)) ?_ ?_ fun j h1 h2 => ?_
  · exact (e1 a (Nat.le_refl _) (by omega)).trans d1
  · rw [hl, ← Nat.add_assoc]; exact (e2 _ (by omega) (Nat.le_refl _)).trans d2'
  · by_cases z : j < a + rs.length
    · rw [if_pos z]; exact d3 j h1 z
    · rw [if_neg z]; exact d3' j (by omega) (by omega)
/-- one row that goes on -/
theorem Blk.one {f a b e : Nat} {r : Rw} (g : r.good) (hr : r.i.rem ≤ b) (he : e = b - r.i.rem + r.i.push) (hl : r.i.last = false) (ht : r.i.tgt = none) (hf : f ≤ b) : Blk f a b e [r] [] := by
  refine Blk.of (D := fun i => if i = a then b else e) (Sg.one ⟨g, by simpa using hr, fun _ => by simp [he], fun t z => by rw [ht] at z; cases z⟩) (if_pos rfl) (if_neg (by simp)) fun j h1 h2 => ?_
  have : j = a := by simp at h2; omega
  subst this
  rw [if_pos rfl]; exact hf
/-- a row that nothing goes on from -/
theorem Blk.fail {a b e : Nat} {w : Str} {l : Nat} (g : (Rw.mk (.fl w) l).good) : Blk b a b e [⟨.fl w, l⟩] [] := by
  refine Blk.of (D := fun i => if i = a then b else e) (Sg.one ⟨g, Nat.zero_le _, fun z => (by cases z), fun t z => by cases z⟩) (if_pos rfl) (if_neg (by simp)) fun j h1 h2 => ?_
  have : j = a := by simp at h2; omega
  subst this
  rw [if_pos rfl]; exact Nat.le_refl _
theorem Blk.jnext {a b l : Nat} (hl : l ≤ 1000000) : Blk b a b b [⟨.jp (a + 1), l⟩] [] :=
  Blk.of (D := fun _ => b) (Sg.one ⟨⟨trivial, hl⟩, Nat.zero_le _, fun z => (by cases z), fun t z => by cases z; exact ⟨by omega, by simp, rfl⟩⟩) rfl rfl fun j _ _ => Nat.le_refl _
end Law

namespace Law
open PySem PySem.Spec PyProof.Rows L2 Pv
/-! Lists of ints. -/
abbrev LI (l : List Int) : PV := .con .own .lst (l.map PV.int)
theorem resP_own {S : Sto} {n : Nat} {l : List Int} (h : S[n]? = some (some (.lst, l.map PV.int))) : resP S (.ref n) = .ok (LI l) := resP_ref h (cleans_ints l)
theorem addLI (S : Sto) (a b : List Int) (h : a.length + b.length ≤ 16777216) : addF false (LI a) (LI b) S = some (LI (a ++ b), S) := by
  rw [addF_lst (by decide) (by decide) (by simpa using h)]; simp
theorem lendLI (S : Sto) (l : List Int) : lendV S (LI l) = some (LI l) := lend_clean (clean_ints (by decide) l)
theorem atI_nat {α : Type} {xs : List α} {i : Nat} : L2.atI xs (i : Int) = xs[i]? := by
  unfold L2.atI ixN
  rw [if_pos (by omega)]
  by_cases h : (i : Int) < xs.length
  · rw [if_pos (by omega)]; simp
  · rw [if_neg (by omega)]; simp; omega
theorem atLI {l : List Int} {i : Nat} : L2.atI (l.map PV.int) (i : Int) = l[i]?.map PV.int := by rw [atI_nat, List.getElem?_map]
end Law

/-! G2: the program maker: values and plain parts. -/
namespace Law
open PySem PySem.Spec PyProof.Rows L2 Pv
/-- the draws at n, the rows at r; else S is as S0 was -/
structure GS (ns : List Int) (n r : Nat) (S0 S : Sto) (ps : List PV) : Prop where
  dr : DR n ns S
  rw_ : S[r]? = some (some (.lst, ps))
  ne : n ≠ r
  len : S0.length ≤ S.length
  fr : ∀ i, i < S0.length → i ≠ n → i ≠ r → S[i]? = S0[i]?
section
variable {ns : List Int} {n r : Nat} {S0 S : Sto} {ps : List PV} {Γ : Gam} {i : Nat} {Q : PV → Sto → Prop} {P : RS → Prop} {t : EF} {as : AF}
theorem GS.lt (g : GS ns n r S0 S ps) : r < S.length := (List.getElem?_eq_some_iff.mp g.rw_).1
theorem gdrawR (g : GS ns n r S0 S ps) {m : Int} (hm : 0 < m) (hm2 : m < 1073741824) (k : ∀ (j : Nat) S', (j : Int) < m → GS ns n r S0 S' ps → Q (.int j) S') : okR (f_law_draw [.ref n, .int m] S) Q := by
  obtain ⟨x, S', e, x0, x1, d, f⟩ := draw g.dr m hm hm2
  obtain ⟨j, rfl⟩ : ∃ j : Nat, x = j := ⟨x.toNat, by omega⟩
  exact okR.of e (k j S' x1 ⟨d, (f.2 r (Ne.symm g.ne)).trans g.rw_, g.ne, by rw [f.1]; exact g.len, fun i h1 h2 h3 => (f.2 i h2).trans (g.fr i h1 h2 h3)⟩)
theorem gdraw (g : GS ns n r S0 S ps) {m : Int} (hi : Γ[i]? = some (some (.ref n))) (k : ∀ (j : Nat) S', (j : Int) < m → GS ns n r S0 S' ps → Q (.int j) S') (hm : 0 < m := by decide) (hm2 : m < 1073741824 := by decide) :
    okR (eCallW f_law_draw (aCons (eV i) (aCons (eC (.int m)) aNil)) Γ S) Q := W.callW (W.cons (W.var hi (W.cons (W.con (W.nil (gdrawR g hm hm2 k))))))
theorem GS.push (g : GS ns n r S0 S ps) (v : PV) : GS ns n r S0 (S.set r (some (.lst, ps ++ [v]))) (ps ++ [v]) := by
  obtain ⟨a, h, s, e, h0⟩ := g.dr
  refine ⟨⟨a, h, s, by rw [List.getElem?_set_ne (Ne.symm g.ne)]; exact e, h0⟩, List.getElem?_set_self g.lt, g.ne, by rw [List.length_set]; exact g.len, fun i h1 h2 h3 => by rw [List.getElem?_set_ne (Ne.symm h3)]; exact g.fr i h1 h2 h3⟩
theorem gapp (g : GS ns n r S0 S ps) (hi : Γ[i]? = some (some (.ref r))) (hz : ps.length < 100000) (h : okR (t Γ S) fun v S1 => GS ns n r S0 S1 ps ∧ ∀ S2, GS ns n r S0 S2 (ps ++ [v]) → rsP (.nx Γ S2) P) :
    rsP (sExpr (eM "list" appendF (eV i) (aCons t aNil)) Γ S) P := by
  refine W.expr (W.meth (W.var hi ⟨?_, W.cons (h.mono fun v S1 ⟨g1, k⟩ => W.nil ?_)⟩))
  · rw [tyP_refD, g.rw_]; rfl
  · refine ⟨.non, _, ?_, k _ (g1.push v)⟩
    have z : ps.length < sizeLine := by have : sizeLine = 16777216 := sizeLine_eq; omega
    show lstF _ _ _ _ = _
    unfold lstF
    simp only [g1.rw_, Option.join_some]
    rw [if_pos z]
    rfl
theorem gpick {vs : List PV} {m : Int} (g : GS ns n r S0 S ps) (ha : as Γ S = .ok vs S) (hi : Γ[i]? = some (some (.ref n))) (hl : m = vs.length) (k : ∀ v ∈ vs, ∀ S', GS ns n r S0 S' ps → Q v S') (h0 : 0 < m := by decide) (h1 : m < 100 := by decide) :
    okR (eOp ixF (eLst false as) (eCallW f_law_draw (aCons (eV i) (aCons (eC (.int m)) aNil))) Γ S) Q := by
  have hs : sizeLine = 16777216 := sizeLine_eq
  refine W.op (W.lstF (okR.of ha ⟨by omega, gdraw g hi (fun j S' hj g' => ?_) h0 (by omega)⟩))
  have hj : j < vs.length := by omega
  refine ⟨vs[j], S', ?_, k _ (List.getElem_mem hj) S' g'⟩
  show (atI vs (j : Int)).map _ = _
  rw [atI_nat, List.getElem?_eq_getElem hj]
  rfl
end
end Law

/-! G3: numbers, lines, values. -/
namespace Law
open PySem PySem.Spec PyProof.Rows L2 Pv
section
variable {ns : List Int} {n r : Nat} {S0 S : Sto} {ps : List PV} {Γ : Gam} {i : Nat} {Q : PV → Sto → Prop} {P : RS → Prop} {t : EF} {as : AF}
theorem gnumber (g : GS ns n r S0 S ps) (k : ∀ (x : Int) S', -1000000000000000000000000000000 ≤ x → x ≤ 1000000000000000000000000000000 → GS ns n r S0 S' ps → Q (.int x) S') : okR (f_law_number [.ref n] S) Q := by
  unfold f_law_number
  refine Pv.W.run rfl (Pv.W.seq (Pv.W.set (gdraw g rfl fun j S1 hj g1 => Pv.W.go (Pv.W.seq (Pv.W.iteEq (x := j) (y := 0) rfl (fun _ => Pv.W.ret ?_) fun _ => Pv.W.next (Pv.W.go ?_))))))
  · refine gpick (vs := [.int 0, .int 1, .int (-1), .int 1000000000000000000000000000000, .int (-1000000000000000000000000000000), .int 999999999999999999999999999999]) g1 ?_ rfl rfl (fun v hv S' g' => ?_)
    · simp [CPow]
    · simp only [List.mem_cons, List.not_mem_nil, or_false] at hv
      rcases hv with rfl | rfl | rfl | rfl | rfl | rfl <;> exact k _ _ (by decide) (by decide) g'
  · refine Pv.W.seq (Pv.W.iteEq (x := j) (y := 1) rfl (fun _ => Pv.W.ret ?_) fun _ => Pv.W.next (Pv.W.go ?_))
    · refine Pv.W.op (Pv.W.callW (Pv.W.cons (Pv.W.var rfl (Pv.W.cons ?_))))
      refine okR.of (v := .int 1000000000) (S := S1) (by simp [CPow]) ?_
      refine Pv.W.nil (gdrawR (m := 1000000000) g1 (by omega) (by omega) fun x S2 hx g2 => ?_)
      refine okR.of (v := .int 500000000) (S := S2) (by simp [CPow, CMul]) ?_
      exact ⟨.int (x - 500000000), S2, rfl, k _ _ (by omega) (by omega) g2⟩
    · exact Pv.W.ret (Pv.W.op (gdraw g1 rfl fun x S2 hx g2 => Pv.W.con ⟨.int (x - 2), S2, rfl, k _ _ (by omega) (by omega) g2⟩))
theorem gline (g : GS ns n r S0 S ps) (k : ∀ (l : Nat) S', l ≤ 1000000 → GS ns n r S0 S' ps → Q (.int l) S') : okR (f_law_line [.ref n] S) Q := by
  unfold f_law_line
  refine Pv.W.run rfl (Pv.W.ret (gpick (vs := [.int 0, .int 1, .int 1, .int 2, .int 3, .int 7, .int 1000000]) g ?_ rfl rfl (fun v hv S' g' => ?_)))
  · simp [CPow]
  · simp only [List.mem_cons, List.not_mem_nil, or_false] at hv
    rcases hv with rfl | rfl | rfl | rfl | rfl | rfl | rfl
    · exact k 0 _ (by decide) g'
    · exact k 1 _ (by decide) g'
    · exact k 1 _ (by decide) g'
    · exact k 2 _ (by decide) g'
    · exact k 3 _ (by decide) g'
    · exact k 7 _ (by decide) g'
    · exact k 1000000 _ (by decide) g'
/-- a row as it is written: [instruction, line] -/
theorem growW {te tl : EF} (hl : okR (te Γ S) fun v S1 => okR (tl Γ S1) fun w S2 => Q (.con .own .lst [v, w]) S2) : okR (eLst false (aCons te (aCons tl aNil)) Γ S) Q :=
  Pv.W.lstF (Pv.W.cons (hl.mono fun v S1 h => Pv.W.cons (h.mono fun w S2 h => Pv.W.nil ⟨by have : sizeLine = 16777216 := sizeLine_eq; simp; omega, h⟩)))
theorem gtup1 {a : EF} (h : okR (a Γ S) fun v S1 => Q (.con .own .tup [v]) S1) : okR (eTup (aCons a aNil) Γ S) Q :=
  Pv.W.tup (Pv.W.cons (h.mono fun v S1 h => Pv.W.nil ⟨by have : sizeLine = 16777216 := sizeLine_eq; simp; omega, h⟩))
theorem gtup2 {a b : EF} (h : okR (a Γ S) fun v S1 => okR (b Γ S1) fun w S2 => Q (.con .own .tup [v, w]) S2) : okR (eTup (aCons a (aCons b aNil)) Γ S) Q :=
  Pv.W.tup (Pv.W.cons (h.mono fun v S1 h => Pv.W.cons (h.mono fun w S2 h => Pv.W.nil ⟨by have : sizeLine = 16777216 := sizeLine_eq; simp; omega, h⟩)))
/-- a written instruction of one word, at a line that stands in a slot -/
theorem gop (o : Opc) {s : Str} {l : Nat} {j : Nat} (e : s = o.name) (hl : Γ[j]? = some (some (.int (l : Int)))) (q : Q (Rw.pv ⟨.op o, l⟩) S) : okR (eLst false (aCons (eTup (aCons (eC (.str s)) aNil)) (aCons (eV j) aNil)) Γ S) Q := by
  subst e
  exact growW (gtup1 (Pv.W.con (Pv.W.var hl q)))
end
end Law

/-! G4: values, plain parts. -/
namespace Law
open PySem PySem.Spec PyProof.Rows L2 Pv
section
variable {ns : List Int} {n r : Nat} {S0 S : Sto} {ps : List PV} {Γ : Gam} {i : Nat} {Q : PV → Sto → Prop} {P : RS → Prop} {t u : SF} {as : AF}
theorem gif (g : GS ns n r S0 S ps) {m y : Int} (hi : Γ[i]? = some (some (.ref n))) (h1 : ∀ S', GS ns n r S0 S' ps → rsP (t Γ S') P) (h2 : ∀ S', GS ns n r S0 S' ps → rsP (u Γ S') P) (hm : 0 < m := by decide) (hm2 : m < 1073741824 := by decide) :
    rsP (sIf (bE (eOp eqF (eCallW f_law_draw (aCons (eV i) (aCons (eC (.int m)) aNil))) (eC (.int y)))) t u Γ S) P :=
  Pv.W.ite (Pv.W.bE (Pv.W.eqI (gdraw g hi (fun j S' _ g' => Pv.W.con ⟨j, y, rfl, rfl, _, rfl, fun _ => h1 S' g', fun _ => h2 S' g'⟩) hm hm2)))
theorem gpickS (ws : List Str) {m : Int} (g : GS ns n r S0 S ps) (ha : as Γ S = .ok (ws.map PV.str) S) (hi : Γ[i]? = some (some (.ref n))) (hl : m = ws.length) (k : ∀ w ∈ ws, ∀ S', GS ns n r S0 S' ps → Q (.str w) S') (h0 : 0 < m := by decide) (h1 : m < 100 := by decide) :
    okR (eOp ixF (eLst false as) (eCallW f_law_draw (aCons (eV i) (aCons (eC (.int m)) aNil))) Γ S) Q :=
  gpick g ha hi (by rw [List.length_map]; exact hl) (fun v hv S' g' => by
    obtain ⟨w, hw, rfl⟩ := List.mem_map.mp hv
    exact k w hw S' g') h0 h1
theorem gpickO (os : List Opc) {m : Int} (g : GS ns n r S0 S ps) (ha : as Γ S = .ok (os.map fun o => .str o.name) S) (hi : Γ[i]? = some (some (.ref n))) (hl : m = os.length) (k : ∀ o ∈ os, ∀ S', GS ns n r S0 S' ps → Q (.str o.name) S') (h0 : 0 < m := by decide) (h1 : m < 100 := by decide) :
    okR (eOp ixF (eLst false as) (eCallW f_law_draw (aCons (eV i) (aCons (eC (.int m)) aNil))) Γ S) Q :=
  gpick g ha hi (by rw [List.length_map]; exact hl) (fun v hv S' g' => by
    obtain ⟨w, hw, rfl⟩ := List.mem_map.mp hv
    exact k w hw S' g') h0 h1
theorem gpickL (ls : List Nat) {m : Int} (g : GS ns n r S0 S ps) (ha : as Γ S = .ok (ls.map fun l => .int (l : Nat)) S) (hi : Γ[i]? = some (some (.ref n))) (hl : m = ls.length) (k : ∀ l ∈ ls, ∀ S', GS ns n r S0 S' ps → Q (.int (l : Nat)) S') (h0 : 0 < m := by decide) (h1 : m < 100 := by decide) :
    okR (eOp ixF (eLst false as) (eCallW f_law_draw (aCons (eV i) (aCons (eC (.int m)) aNil))) Γ S) Q :=
  gpick g ha hi (by rw [List.length_map]; exact hl) (fun v hv S' g' => by
    obtain ⟨w, hw, rfl⟩ := List.mem_map.mp hv
    exact k w hw S' g') h0 h1
theorem two_op {o : Opc} (h : o ∈ [Opc.add, .sub, .less, .div]) : (Itr.op o).rem = 2 ∧ (Itr.op o).push = 1 ∧ (Itr.op o).last = false := by
  simp only [List.mem_cons, List.not_mem_nil, or_false] at h
  rcases h with rfl | rfl | rfl | rfl <;> exact ⟨rfl, rfl, rfl⟩
theorem words_ok {l : List Str} (hl : (l.all fun w => decide (WdOk w)) = true) {w : Str} (h : w ∈ l) : WdOk w := by
  have := List.all_eq_true.mp hl w h
  exact of_decide_eq_true this
theorem abc {w : Str} (h : w ∈ (["a", "b", "c"] : List Str)) : WdOk w := words_ok (by decide +kernel) h
/-- a value: rows that put one number on the stack -/
structure Val (rows : List Rw) (m : Nat) : Prop where
  len : rows.length ≤ m
  pos : 0 < rows.length
  blk : ∀ a b, Blk b a b (b + 1) rows []
theorem Val.app {rows rs : List Rw} {m k : Nat} (h : Val rows m) (hl : rs.length ≤ k) (hb : ∀ a b, Blk b a (b + 1) (b + 1) rs []) : Val (rows ++ rs) (m + k) := by
  refine ⟨?_, ?_, fun a b => Blk.app (h.blk a b) (hb _ b)⟩
  · rw [List.length_append]; have := h.len; omega
  · rw [List.length_append]; have := h.pos; omega
theorem Val.c {x : Int} {l : Nat} (h : (Rw.mk (.c x) l).good) : Val [⟨.c x, l⟩] 3 := ⟨by simp, by simp, fun a b => Blk.one h (Nat.zero_le _) rfl rfl rfl (Nat.le_refl _)⟩
theorem Val.ld {w : Str} {l : Nat} (h : (Rw.mk (.ld w) l).good) : Val [⟨.ld w, l⟩] 3 := ⟨by simp, by simp, fun a b => Blk.one h (Nat.zero_le _) rfl rfl rfl (Nat.le_refl _)⟩
theorem Val.op2 {x y : Int} {o : Opc} {l l' l'' : Nat} (h1 : (Rw.mk (.c x) l).good) (h2 : (Rw.mk (.c y) l').good) (ho : o ∈ [Opc.add, .sub, .less, .div]) (h3 : l'' ≤ 1000000) : Val [⟨.c x, l⟩, ⟨.c y, l'⟩, ⟨.op o, l''⟩] 3 := by
  obtain ⟨o1, o2, o3⟩ := two_op ho
  refine ⟨by simp, by simp, fun a b => ?_⟩
  have b1 : Blk b a b (b + 1) [⟨.c x, l⟩] [] := Blk.one h1 (Nat.zero_le _) rfl rfl rfl (by omega)
  have b2 : Blk b (a + 1) (b + 1) (b + 2) [⟨.c y, l'⟩] [] := Blk.one h2 (Nat.zero_le _) rfl rfl rfl (by omega)
  have b3 : Blk b (a + 1 + 1) (b + 2) (b + 1) [⟨.op o, l''⟩] [] := Blk.one ⟨trivial, h3⟩ (by show (Itr.op o).rem ≤ _; omega) (by show _ = _ - (Itr.op o).rem + (Itr.op o).push; omega) o3 rfl (by omega)
  exact (b1.app b2).app b3
theorem blk_ldop {w : Str} {o : Opc} {l : Nat} (hw : WdOk w) (ho : o ∈ [Opc.add, .sub, .less, .div]) (h3 : l ≤ 1000000) (a b : Nat) : Blk b a (b + 1) (b + 1) [⟨.ld w, l⟩, ⟨.op o, l⟩] [] := by
  obtain ⟨o1, o2, o3⟩ := two_op ho
  have b2 : Blk b a (b + 1) (b + 2) [⟨.ld w, l⟩] [] := Blk.one ⟨hw, h3⟩ (Nat.zero_le _) rfl rfl rfl (by omega)
  have b3 : Blk b (a + 1) (b + 2) (b + 1) [⟨.op o, l⟩] [] := Blk.one ⟨trivial, h3⟩ (by show (Itr.op o).rem ≤ _; omega) (by show _ = _ - (Itr.op o).rem + (Itr.op o).push; omega) o3 rfl (by omega)
  exact b2.app b3
theorem blk_not {l : Nat} (h3 : l ≤ 1000000) (a b : Nat) : Blk b a (b + 1) (b + 1) [⟨.op .not, l⟩] [] := Blk.one ⟨trivial, h3⟩ (by show 1 ≤ _; omega) (by show _ = b + 1 - 1 + 1; omega) rfl rfl (by omega)
/-- the two ends of a value -/
theorem gvalue_end {l : Nat} {x y : Option PV} (hl : l ≤ 1000000) (hz : ps.length < 90000) {rows : List Rw} (hv : Val rows 3) (g : GS ns n r S0 S (ps ++ rows.map Rw.pv))
    (k : ∀ rows S', GS ns n r S0 S' (ps ++ rows.map Rw.pv) → Val rows 6 → Q .non S') :
    rsP (r3_law_value [some (.ref n), some (.ref r), some (.int (l : Nat)), x, y] S) fun r => match r with
    | .nx _ S' => Q .non S'
    | .rt v S' => Q v S'
    | _ => False := by
  have fin : ∀ (rows : List Rw) S, Val rows 5 → GS ns n r S0 S (ps ++ rows.map Rw.pv) → rsP (r2_law_value [some (.ref n), some (.ref r), some (.int (l : Nat)), x, y] S) fun r => match r with
    | .nx _ S' => Q .non S'
    | .rt v S' => Q v S'
    | _ => False := fun rows S hv g => by
    have hz' : (ps ++ rows.map Rw.pv).length < 100000 := by rw [List.length_append, List.length_map]; have := hv.len; omega
    refine gif g rfl (fun S1 g1 => gapp g1 rfl hz' (gop .not rfl rfl ⟨g1, fun S2 g2 => ?_⟩)) (fun S1 g1 => Pv.W.next ?_)
    · exact k (rows ++ [⟨.op .not, l⟩]) S2 (by simpa using g2) (hv.app (k := 1) (Nat.le_refl _) fun a b => blk_not hl a b)
    · exact k rows S1 g1 ⟨Nat.le_succ_of_le hv.len, hv.pos, hv.blk⟩
  have hz' : (ps ++ rows.map Rw.pv).length < 99999 := by rw [List.length_append, List.length_map]; have := hv.len; omega
  refine Pv.W.seq (gif g rfl (fun S1 g1 => ?_) fun S1 g1 => Pv.W.next (Pv.W.go (fin rows S1 ⟨Nat.le_trans hv.len (by decide), hv.pos, hv.blk⟩ g1)))
  refine Pv.W.seq (gapp g1 rfl (by omega) (growW (gtup2 (Pv.W.con (gpickS ["a", "b", "c"] g1 rfl rfl rfl fun w hw S2 g2 => Pv.W.var rfl ⟨g2, fun S3 g3 => Pv.W.go ?_⟩)))))
  refine gapp g3 rfl (by rw [List.length_append]; simp at hz' ⊢; omega) (growW (gtup1 (gpickO [.add, .sub, .less, .div] g3 rfl rfl rfl fun o ho S4 g4 => Pv.W.var rfl ⟨g4, fun S5 g5 => Pv.W.go ?_⟩)))
  exact fin (rows ++ [⟨.ld w, l⟩, ⟨.op o, l⟩]) S5 (hv.app (k := 2) (Nat.le_refl _) fun a b => blk_ldop (abc hw) ho hl a b) (by simpa [Rw.pv, Itr.pv] using g5)
theorem gvalue (g : GS ns n r S0 S ps) {l : Nat} (hl : l ≤ 1000000) (hz : ps.length < 90000) (k : ∀ rows S', GS ns n r S0 S' (ps ++ rows.map Rw.pv) → Val rows 6 → Q .non S') : okR (f_law_value [.ref n, .ref r, .int (l : Nat)] S) Q := by
  unfold f_law_value
  refine Pv.W.run rfl (Pv.W.seq (Pv.W.set (gdraw g rfl fun j S1 hj g1 => Pv.W.go (Pv.W.seq (Pv.W.iteLe (x := j) (y := 3) rfl (fun _ => ?_) fun _ => Pv.W.iteLe (x := j) (y := 5) rfl (fun _ => ?_) fun _ => ?_)))))
  · refine gapp g1 rfl (by omega) (growW (gtup2 (Pv.W.con (Pv.W.callW (Pv.W.cons (Pv.W.var rfl (Pv.W.nil (gnumber g1 fun x S2 x0 x1 g2 => Pv.W.var rfl ⟨g2, fun S3 g3 => Pv.W.go ?_⟩))))))))
    exact gvalue_end hl hz (Val.c (x := x) (l := l) ⟨⟨x0, x1⟩, hl⟩) g3 k
  · refine gapp g1 rfl (by omega) (growW (gtup2 (Pv.W.con (gpickS ["a", "b", "c"] g1 rfl rfl rfl fun w hw S2 g2 => Pv.W.var rfl ⟨g2, fun S3 g3 => Pv.W.go ?_⟩))))
    exact gvalue_end hl hz (Val.ld (w := w) (l := l) ⟨abc hw, hl⟩) g3 k
  · refine Pv.W.seq (gapp g1 rfl (by omega) (growW (gtup2 (Pv.W.con (Pv.W.callW (Pv.W.cons (Pv.W.var rfl (Pv.W.nil (gnumber g1 fun x S2 x0 x1 g2 => Pv.W.var rfl ⟨g2, fun S3 g3 => Pv.W.go ?_⟩)))))))))
    refine Pv.W.seq (gapp g3 rfl (by simp; omega) (growW (gtup2 (Pv.W.con (gdraw g3 rfl fun y S4 hy g4 => gpickL [l, l, 0] g4 rfl rfl rfl fun l' hl' S5 g5 => ⟨g5, fun S6 g6 => Pv.W.go ?_⟩)))))
    refine Pv.W.seq (Pv.W.set (gpickO [.add, .sub, .less, .div] g6 rfl rfl rfl fun o ho S7 g7 => Pv.W.go ?_))
    refine gapp g7 rfl (by simp; omega) (growW (gtup1 (Pv.W.var rfl (gpickL [l, l, 0, 2] g7 rfl rfl rfl fun l'' hl'' S8 g8 => ⟨g8, fun S9 g9 => Pv.W.go ?_⟩))))
    have e1 : l' ≤ 1000000 := by simp at hl'; omega
    have e2 : l'' ≤ 1000000 := by simp at hl''; omega
    exact gvalue_end hl hz (Val.op2 (x := x) (y := y) (o := o) (l := l) (l' := l') (l'' := l'') ⟨⟨x0, x1⟩, hl⟩ ⟨⟨by omega, by omega⟩, e1⟩ ho e2) (by simpa [Rw.pv, Itr.pv] using g9) k
end
end Law

/-! G5: plain parts. -/
namespace Law
open PySem PySem.Spec PyProof.Rows L2 Pv
section
variable {ns : List Int} {n r : Nat} {S0 S : Sto} {ps : List PV} {Γ : Gam} {i : Nat} {Q : PV → Sto → Prop} {P : RS → Prop} {t u : SF} {as : AF}
/-- the statement law_value(draws, rows, line) -/
theorem svalue (g : GS ns n r S0 S ps) {l j : Nat} (hl : l ≤ 1000000) (hz : ps.length < 90000) (h0 : Γ[0]? = some (some (.ref n))) (h1 : Γ[1]? = some (some (.ref r))) (h2 : Γ[j]? = some (some (.int (l : Nat))))
    (k : ∀ rows S', GS ns n r S0 S' (ps ++ rows.map Rw.pv) → Val rows 6 → rsP (.nx Γ S') P) : rsP (sExpr (eCallW f_law_value (aCons (eV 0) (aCons (eV 1) (aCons (eV j) aNil)))) Γ S) P :=
  Pv.W.expr (Pv.W.callW (Pv.W.cons (Pv.W.var h0 (Pv.W.cons (Pv.W.var h1 (Pv.W.cons (Pv.W.var h2 (Pv.W.nil (gvalue g hl hz k)))))))))
theorem glen (g : GS ns n r S0 S ps) (h1 : Γ[i]? = some (some (.ref r))) (q : Q (.int (ps.length : Nat)) S) : okR (eCall lenF (aCons (eV i) aNil) Γ S) Q :=
  Pv.W.call (Pv.W.cons (Pv.W.var h1 (Pv.W.nil ⟨.int (ps.length : Nat), S, lenF_ref g.rw_, q⟩)))
theorem Val.end {rows rs : List Rw} {a : Nat} (h : Val rows 6) (hb : ∀ a b, Blk b a (b + 1) b rs []) (b : Nat) : Blk b a b b (rows ++ rs) [] := Blk.app (h.blk a b) (hb _ b)
theorem blk_pop1 {o : Opc} {l : Nat} (ho : o = .pop ∨ o = .print) (hl : l ≤ 1000000) (a b : Nat) : Blk b a (b + 1) b [⟨.op o, l⟩] [] := by
  rcases ho with rfl | rfl <;> exact Blk.one ⟨trivial, hl⟩ (by show 1 ≤ _; omega) (by show _ = b + 1 - 1 + 0; omega) rfl rfl (by omega)
theorem blk_sto {w : Str} {l : Nat} (hw : WdOk w) (hl : l ≤ 1000000) (a b : Nat) : Blk b a (b + 1) b [⟨.sto w, l⟩] [] := Blk.one ⟨hw, hl⟩ (by show 1 ≤ _; omega) (by show _ = b + 1 - 1 + 0; omega) rfl rfl (by omega)
theorem blk_skip {l : Nat} (hl : l ≤ 1000000) (a b : Nat) : Blk b a b b [⟨.op .skip, l⟩] [] := Blk.one ⟨trivial, hl⟩ (Nat.zero_le _) rfl rfl rfl (Nat.le_refl _)
theorem blk_copy {l : Nat} (hl : l ≤ 1000000) (a b : Nat) : Blk b a (b + 1) b [⟨.op .copy, l⟩, ⟨.op .pop, l⟩, ⟨.op .print, l⟩] [] := by
  have b1 : Blk b a (b + 1) (b + 2) [⟨.op .copy, l⟩] [] := Blk.one ⟨trivial, hl⟩ (by show 1 ≤ _; omega) (by show _ = b + 1 - 1 + 2; omega) rfl rfl (by omega)
  exact (b1.app ((blk_pop1 (o := .pop) (Or.inl rfl) hl (a + 1) (b + 1)).floor (Nat.le_succ b))).app (blk_pop1 (o := .print) (Or.inr rfl) hl _ b)
theorem gplain (g : GS ns n r S0 S ps) (hz : ps.length < 80000) (k : ∀ rows S', GS ns n r S0 S' (ps ++ rows.map Rw.pv) → rows.length ≤ 9 → (∀ b, Blk b ps.length b b rows []) → Q .non S') : okR (f_law_plain [.ref n, .ref r] S) Q := by
  unfold f_law_plain
  refine Pv.W.run rfl (Pv.W.seq (Pv.W.set (Pv.W.callW (Pv.W.cons (Pv.W.var rfl (Pv.W.nil (gline g fun l S1 hl g1 => Pv.W.go (Pv.W.seq (Pv.W.set (gdraw g1 rfl fun j S2 hj g2 => Pv.W.go ?_))))))))))
  refine Pv.W.iteLe (x := j) (y := 1) rfl (fun _ => ?_) fun _ => Pv.W.iteEq (x := j) (y := 2) rfl (fun _ => ?_) fun _ => Pv.W.iteEq (x := j) (y := 3) rfl (fun _ => ?_) fun _ => Pv.W.iteEq (x := j) (y := 4) rfl (fun _ => ?_) fun _ =>
    Pv.W.iteEq (x := j) (y := 5) rfl (fun _ => ?_) fun _ => Pv.W.iteEq (x := j) (y := 6) rfl (fun _ => ?_) fun _ => ?_
  · refine Pv.W.seq (svalue g2 hl (by omega) rfl rfl rfl fun rows S3 g3 hv => Pv.W.go ?_)
    have hz3 : (ps ++ rows.map Rw.pv).length < 90000 := by rw [List.length_append, List.length_map]; have := hv.len; omega
    refine gapp g3 rfl (by omega) (gop .print rfl rfl ⟨g3, fun S4 g4 => ?_⟩)
    exact k (rows ++ [⟨.op .print, l⟩]) S4 (by simpa using g4) (by have := hv.len; simp; omega) (hv.end (blk_pop1 (Or.inr rfl) hl))
  · refine Pv.W.seq (svalue g2 hl (by omega) rfl rfl rfl fun rows S3 g3 hv => Pv.W.go ?_)
    have hz3 : (ps ++ rows.map Rw.pv).length < 90000 := by rw [List.length_append, List.length_map]; have := hv.len; omega
    refine gapp g3 rfl (by omega) (growW (gtup2 (Pv.W.con (gpickS ["a", "b", "c"] g3 rfl rfl rfl fun w hw S4 g4 => Pv.W.var rfl ⟨g4, fun S5 g5 => ?_⟩))))
    exact k (rows ++ [⟨.sto w, l⟩]) S5 (by simpa [Rw.pv, Itr.pv] using g5) (by have := hv.len; simp; omega) (hv.end (blk_sto (abc hw) hl))
  · refine gapp g2 rfl (by omega) (gop .skip rfl rfl ⟨g2, fun S4 g4 => ?_⟩)
    exact k [⟨.op .skip, l⟩] S4 (by simpa using g4) (by simp) (fun b => blk_skip hl _ b)
  · refine Pv.W.seq (svalue g2 hl (by omega) rfl rfl rfl fun rows S3 g3 hv => Pv.W.go ?_)
    have hz3 : (ps ++ rows.map Rw.pv).length < 90000 := by rw [List.length_append, List.length_map]; have := hv.len; omega
    refine gapp g3 rfl (by omega) (growW (gtup1 (Pv.W.con (gpickL [l, 0] g3 rfl rfl rfl fun l' hl' S4 g4 => ⟨g4, fun S5 g5 => ?_⟩))))
    have e1 : l' ≤ 1000000 := by simp at hl'; omega
    exact k (rows ++ [⟨.op .pop, l'⟩]) S5 (by simpa [Rw.pv, Itr.pv, Opc.name] using g5) (by have := hv.len; simp; omega) (hv.end (blk_pop1 (Or.inl rfl) e1))
  · refine Pv.W.seq (svalue g2 hl (by omega) rfl rfl rfl fun rows S3 g3 hv => Pv.W.go ?_)
    have hz3 : (ps ++ rows.map Rw.pv).length < 90000 := by rw [List.length_append, List.length_map]; have := hv.len; omega
    refine Pv.W.seq (gapp g3 rfl (by omega) (gop .copy rfl rfl ⟨g3, fun S4 g4 => Pv.W.go ?_⟩))
    refine Pv.W.seq (gapp g4 rfl (by rw [List.length_append]; simp only [List.length_singleton]; omega) (gop .pop rfl rfl ⟨g4, fun S5 g5 => Pv.W.go ?_⟩))
    refine gapp g5 rfl (by rw [List.length_append, List.length_append]; simp only [List.length_singleton]; omega) (gop .print rfl rfl ⟨g5, fun S6 g6 => ?_⟩)
    exact k (rows ++ [⟨.op .copy, l⟩, ⟨.op .pop, l⟩, ⟨.op .print, l⟩]) S6 (by simpa using g6) (by have := hv.len; simp; omega) (hv.end (blk_copy hl))
  · refine Pv.W.seq (gapp g2 rfl (by omega) (gop .skip rfl rfl ⟨g2, fun S4 g4 => Pv.W.go ?_⟩))
    refine gapp g4 rfl (by rw [List.length_append]; simp only [List.length_singleton]; omega) (growW (gtup1 (Pv.W.con (gpickL [0, l] g4 rfl rfl rfl fun l' hl' S5 g5 => ⟨g5, fun S6 g6 => ?_⟩))))
    have e1 : l' ≤ 1000000 := by simp at hl'; omega
    exact k [⟨.op .skip, l⟩, ⟨.op .skip, l'⟩] S6 (by simpa [Rw.pv, Itr.pv, Opc.name] using g6) (by simp) (fun b => (blk_skip hl _ b).app (blk_skip e1 _ b))
  · have jmp : ∀ S, GS ns n r S0 S ps → rsP (sExpr (eM "list" appendF (eV 1) (aCons (eLst false (aCons (eTup (aCons (eC (.str "jump")) (aCons (eOp (addF false) (eCall lenF (aCons (eV 1) aNil)) (eC (.int 1))) aNil))) (aCons (eOp ixF (eLst false (aCons (eC (.int 0)) (aCons (eV 2) aNil))) (eCallW f_law_draw (aCons (eV 0) (aCons (eC (.int 2)) aNil)))) aNil))) aNil)) [some (.ref n), some (.ref r), some (.int (l : Nat)), some (.int (j : Nat))] S) fun r => match r with
        | .nx _ S' => Q .non S'
        | .rt v S' => Q v S'
        | _ => False := fun S g2 => by
      refine gapp g2 rfl (by omega) (growW (gtup2 (Pv.W.con (Pv.W.op (glen g2 rfl (Pv.W.con ⟨.int (ps.length + 1 : Nat), S, rfl, gpickL [0, l] g2 rfl rfl rfl fun l' hl' S5 g5 => ⟨g5, fun S6 g6 => ?_⟩⟩))))))
      have e1 : l' ≤ 1000000 := by simp at hl'; omega
      exact k [⟨.jp (ps.length + 1), l'⟩] S6 g6 (by simp) (fun b => Blk.jnext e1)
    refine Pv.W.ite (Pv.W.and (Pv.W.bE (Pv.W.eqI (Pv.W.var rfl (Pv.W.con ⟨j, 7, rfl, rfl, _, rfl, fun _ => ?_, fun _ => ⟨fun h => (by cases h), fun _ => jmp S2 g2⟩⟩)))))
    refine Pv.W.bE (Pv.W.eqI (gdraw g2 rfl fun x S3 _ g3 => Pv.W.con ⟨x, 0, rfl, rfl, _, rfl, fun _ => ?_, fun _ => jmp S3 g3⟩))
    refine gapp g3 rfl (by omega) (growW (gtup2 (Pv.W.con (gpickS ["oops", "zero", "unbound"] g3 rfl rfl rfl fun w hw S4 g4 => Pv.W.var rfl ⟨g4, fun S5 g5 => ?_⟩))))
    exact k [⟨.fl w, l⟩] S5 (by simpa [Rw.pv, Itr.pv] using g5) (by simp) (fun b => Blk.fail ⟨words_ok (by decide +kernel) hw, hl⟩)
end
end Law

/-! G6: the program maker's state: rows that may be changed, handlers. -/
namespace Law
open PySem PySem.Spec PyProof.Rows L2 Pv
/-- the objects ps are the rows rs, in S; changing ones stand from lo on -/
structure RWs (lo : Nat) (S : Sto) (ps : List PV) (rs : List Rw) : Prop where
  len : ps.length = rs.length
  at_ : ∀ (i : Nat) (p : PV) (r : Rw), ps[i]? = some p → rs[i]? = some r → p = r.pv ∨ ∃ c : Nat, p = .ref c ∧ lo ≤ c ∧ S[c]? = some (some (.lst, [r.i.pv, .int r.l]))
  inj : ∀ (i j c : Nat), ps[i]? = some (.ref c) → ps[j]? = some (.ref c) → i = j
theorem RWs.nil {lo : Nat} {S : Sto} : RWs lo S [] [] := ⟨rfl, fun i p r h => by simp at h, fun i j c h => by simp at h⟩
theorem RWs.pure {lo : Nat} {S : Sto} {rs : List Rw} : RWs lo S (rs.map Rw.pv) rs := by
  refine ⟨List.length_map _, fun i p r h h' => ?_, fun i j c h => ?_⟩
  · rw [List.getElem?_map, h'] at h
    exact Or.inl (Option.some.inj h).symm
  · rw [List.getElem?_map] at h
    obtain ⟨x, _, e⟩ := Option.map_eq_some_iff.mp h
    cases e
theorem RWs.one {lo c : Nat} {S : Sto} {r : Rw} (h : S[c]? = some (some (.lst, [r.i.pv, .int r.l]))) (hl : lo ≤ c) : RWs lo S [.ref c] [r] := by
  refine ⟨rfl, fun i p x e e' => ?_, fun i j d e e' => ?_⟩
  · cases i with
    | zero => cases e; cases e'; exact Or.inr ⟨c, rfl, hl, h⟩
    | succ i => simp at e
  · cases i with
    | zero => cases j with
      | zero => rfl
      | succ j => simp at e'
    | succ i => simp at e
theorem RWs.ref_lt {lo c i : Nat} {S : Sto} {ps : List PV} {rs : List Rw} (h : RWs lo S ps rs) (e : ps[i]? = some (.ref c)) : lo ≤ c ∧ c < S.length := by
  have hi := (List.getElem?_eq_some_iff.mp e).1
  obtain ⟨x, hx⟩ : ∃ x, rs[i]? = some x := ⟨rs[i]'(by rw [← h.len]; exact hi), List.getElem?_eq_getElem _⟩
  rcases h.at_ i _ x e hx with q | ⟨d, q, q1, q2⟩
  · cases q
  · cases q
    exact ⟨q1, (List.getElem?_eq_some_iff.mp q2).1⟩
/-- the store goes on, the cells stay -/
theorem RWs.keep {lo : Nat} {S S' : Sto} {ps : List PV} {rs : List Rw} (h : RWs lo S ps rs) (fr : ∀ c : Nat, lo ≤ c → c < S.length → S'[c]? = S[c]?) : RWs lo S' ps rs :=
  ⟨h.len, fun i p r e e' => (h.at_ i p r e e').imp id fun ⟨c, q, q1, q2⟩ => ⟨c, q, q1, by rw [fr c q1 (List.getElem?_eq_some_iff.mp q2).1]; exact q2⟩, h.inj⟩
theorem RWs.app {lo m : Nat} {S' : Sto} {ps ps' : List PV} {rs rs' : List Rw} (h : RWs lo S' ps rs) (hm : ∀ (i c : Nat), ps[i]? = some (.ref c) → c < m) (h' : RWs m S' ps' rs') (hl : lo ≤ m) : RWs lo S' (ps ++ ps') (rs ++ rs') := by
  refine ⟨by rw [List.length_append, List.length_append, h.len, h'.len], fun i p r e e' => ?_, fun i j c e e' => ?_⟩
  · by_cases z : i < ps.length
    · rw [List.getElem?_append_left z] at e
      rw [List.getElem?_append_left (by rw [← h.len]; exact z)] at e'
      exact h.at_ i p r e e'
    · rw [List.getElem?_append_right (by omega)] at e
      rw [List.getElem?_append_right (by rw [← h.len]; omega), ← h.len] at e'
      exact (h'.at_ _ p r e e').imp id fun ⟨c, q, q1, q2⟩ => ⟨c, q, by omega, q2⟩
  · by_cases z : i < ps.length
    · rw [List.getElem?_append_left z] at e
      by_cases y : j < ps.length
      · rw [List.getElem?_append_left y] at e'
        exact h.inj i j c e e'
      · rw [List.getElem?_append_right (by omega)] at e'
        have := hm i c e
        have := (h'.ref_lt e').1
        omega
    · rw [List.getElem?_append_right (by omega)] at e
      by_cases y : j < ps.length
      · rw [List.getElem?_append_left y] at e'
        have := hm j c e'
        have := (h'.ref_lt e).1
        omega
      · rw [List.getElem?_append_right (by omega)] at e'
        have := h'.inj _ _ c e e'
        omega
/-- one cell is changed -/
theorem RWs.patch {lo c : Nat} {S : Sto} {ps ps' : List PV} {rs rs' : List Rw} {x : Rw} (y : Rw) (h : RWs lo S (ps ++ .ref c :: ps') (rs ++ x :: rs')) (hl : ps.length = rs.length) : RWs lo (S.set c (some (.lst, [y.i.pv, .int y.l]))) (ps ++ .ref c :: ps') (rs ++ y :: rs') := by
  have hc : (ps ++ .ref c :: ps')[ps.length]? = some (.ref c) := by simp
  have lt := (h.ref_lt hc).2
  refine ⟨by rw [h.len]; simp, fun i p r e e' => ?_, h.inj⟩
  by_cases z : i = ps.length
  · subst z
    rw [hc] at e
    cases e
    have : (rs ++ y :: rs')[ps.length]? = some y := by rw [hl]; simp
    rw [this] at e'
    cases e'
    exact Or.inr ⟨c, rfl, (h.ref_lt hc).1, List.getElem?_set_self lt⟩
  · have : (rs ++ y :: rs')[i]? = (rs ++ x :: rs')[i]? := by
      by_cases w : i < rs.length
      · rw [List.getElem?_append_left w, List.getElem?_append_left w]
      · rw [List.getElem?_append_right (by omega), List.getElem?_append_right (by omega)]
        obtain ⟨j, hj⟩ : ∃ j, i - rs.length = j + 1 := ⟨i - rs.length - 1, by omega⟩
        rw [hj] <;> rfl
    rw [this] at e'
    rcases h.at_ i p r e e' with q | ⟨d, q, q1, q2⟩
    · exact Or.inl q
    · refine Or.inr ⟨d, q, q1, ?_⟩
      rw [List.getElem?_set_ne]
      · exact q2
      · intro e2
        subst e2
        subst q
        exact z (h.inj i ps.length c e hc)
structure FC (n r h : Nat) (S0 : Sto) : Prop where
  nr : n ≠ r
  nh : n ≠ h
  rh : r ≠ h
  n0 : n < S0.length
  r0 : r < S0.length
  h0 : h < S0.length
/-- since S0, ps0, hs0: new rows, new handlers -/
structure FS (ns : List Int) (n r h : Nat) (S0 : Sto) (ps0 hs0 : List PV) (S : Sto) (new : List PV) (rows : List Rw) (hds : List Hnd) : Prop where
  c : FC n r h S0
  dr : DR n ns S
  rw_ : S[r]? = some (some (.lst, ps0 ++ new))
  hh : S[h]? = some (some (.lst, hs0 ++ hds.map Hnd.pv))
  len : S0.length ≤ S.length
  fr : ∀ i, i < S0.length → i ≠ n → i ≠ r → i ≠ h → S[i]? = S0[i]?
  rws : RWs S0.length S new rows
  hb : hs0.length ≤ ps0.length
  hl : hds.length ≤ rows.length
  hB : ∀ x ∈ hds, x.d ≤ 200
section
variable {ns : List Int} {n r h : Nat} {S0 S S' : Sto} {ps0 hs0 new : List PV} {rows : List Rw} {hds : List Hnd}
theorem FS.start (c : FC n r h S0) (d : DR n ns S0) (hr : S0[r]? = some (some (.lst, ps0))) (hh : S0[h]? = some (some (.lst, hs0))) (hb : hs0.length ≤ ps0.length) : FS ns n r h S0 ps0 hs0 S0 [] [] [] :=
  ⟨c, d, by simpa using hr, by simpa using hh, Nat.le_refl _, fun _ _ _ _ _ => rfl, RWs.nil, hb, Nat.le_refl _, fun x hx => by simp at hx⟩
theorem FS.gs (f : FS ns n r h S0 ps0 hs0 S new rows hds) : GS ns n r S S (ps0 ++ new) := ⟨f.dr, f.rw_, f.c.nr, Nat.le_refl _, fun _ _ _ _ => rfl⟩
theorem FS.lens (f : FS ns n r h S0 ps0 hs0 S new rows hds) : (ps0 ++ new).length = ps0.length + rows.length := by rw [List.length_append, f.rws.len]
theorem FS.back (f : FS ns n r h S0 ps0 hs0 S new rows hds) {rows' : List Rw} (g : GS ns n r S S' (ps0 ++ new ++ rows'.map Rw.pv)) : FS ns n r h S0 ps0 hs0 S' (new ++ rows'.map Rw.pv) (rows ++ rows') hds := by
  have c := f.c
  refine ⟨c, g.dr, by rw [g.rw_, List.append_assoc], by rw [g.fr h (Nat.lt_of_lt_of_le c.h0 f.len) (Ne.symm c.nh) (Ne.symm c.rh)]; exact f.hh, Nat.le_trans f.len g.len, fun i h1 h2 h3 h4 => by rw [g.fr i (Nat.lt_of_lt_of_le h1 f.len) h2 h3]; exact f.fr i h1 h2 h3 h4, ?_, f.hb, by have := f.hl; rw [List.length_append]; omega, f.hB⟩
  have k : RWs S0.length S' new rows := f.rws.keep fun x h1 h2 => g.fr x h2 (by have := c.n0; omega) (by have := c.r0; omega)
  exact k.app (m := S.length) (fun i x e => (f.rws.ref_lt e).2) RWs.pure f.len
theorem FS.back0 (f : FS ns n r h S0 ps0 hs0 S new rows hds) (g : GS ns n r S S' (ps0 ++ new)) : FS ns n r h S0 ps0 hs0 S' new rows hds := by
  have := f.back (rows' := []) (S' := S') (by simpa using g)
  simpa using this
/-- a row that may change is put at the end -/
theorem FS.cell (f : FS ns n r h S0 ps0 hs0 S new rows hds) (x : Rw) : FS ns n r h S0 ps0 hs0 ((S ++ [some (Kd.lst, [x.i.pv, PV.int x.l])]).set r (some (Kd.lst, ps0 ++ new ++ [PV.ref S.length]))) (new ++ [PV.ref S.length]) (rows ++ [x]) hds := by
  have c := f.c
  have hn : n < S.length := Nat.lt_of_lt_of_le c.n0 f.len
  have hr : r < S.length := Nat.lt_of_lt_of_le c.r0 f.len
  have hh : h < S.length := Nat.lt_of_lt_of_le c.h0 f.len
  have old : ∀ i : Nat, i < S.length → i ≠ r → ((S ++ [some (Kd.lst, [x.i.pv, PV.int x.l])]).set r (some (Kd.lst, ps0 ++ new ++ [PV.ref S.length])))[i]? = S[i]? := fun i h1 h2 => by
    rw [List.getElem?_set_ne (Ne.symm h2), List.getElem?_append_left h1]
  obtain ⟨a, b, s, e, h0⟩ := f.dr
  refine ⟨c, ⟨a, b, s, by rw [old n hn c.nr]; exact e, h0⟩, ?_, by rw [old h hh (Ne.symm c.rh)]; exact f.hh, ?_, fun i h1 h2 h3 h4 => ?_, ?_, f.hb, by have := f.hl; rw [List.length_append]; omega, f.hB⟩
  · rw [List.getElem?_set_self (by simp; omega), List.append_assoc]
  · have := f.len; simp; omega
  · rw [old i (Nat.lt_of_lt_of_le h1 f.len) h3]; exact f.fr i h1 h2 h3 h4
  · have k : RWs S0.length ((S ++ [some (Kd.lst, [x.i.pv, PV.int x.l])]).set r (some (Kd.lst, ps0 ++ new ++ [PV.ref S.length]))) new rows := f.rws.keep fun i h1 h2 => old i h2 (by have := c.r0; omega)
    refine k.app (m := S.length) (fun i y e => (f.rws.ref_lt e).2) (RWs.one (r := x) ?_ (Nat.le_refl _)) f.len
    rw [List.getElem?_set_ne (by omega)]
    simp
theorem FS.patch {pa pb : List PV} {ra rb : List Rw} {x : Rw} {d : Nat} (y : Rw) (f : FS ns n r h S0 ps0 hs0 S (pa ++ .ref d :: pb) (ra ++ x :: rb) hds) (hl : pa.length = ra.length) : FS ns n r h S0 ps0 hs0 (S.set d (some (.lst, [y.i.pv, .int y.l]))) (pa ++ .ref d :: pb) (ra ++ y :: rb) hds := by
  have c := f.c
  have hd : S0.length ≤ d := (f.rws.ref_lt (i := pa.length) (c := d) (by simp)).1
  obtain ⟨a, b, s, e, h0⟩ := f.dr
  have h1 := c.n0; have h2 := c.r0; have h3 := c.h0
  exact ⟨c, ⟨a, b, s, by rw [List.getElem?_set_ne (by omega)]; exact e, h0⟩, by rw [List.getElem?_set_ne (by omega)]; exact f.rw_, by rw [List.getElem?_set_ne (by omega)]; exact f.hh, by rw [List.length_set]; exact f.len, fun i q1 q2 q3 q4 => by rw [List.getElem?_set_ne (by omega)]; exact f.fr i q1 q2 q3 q4, f.rws.patch y hl, f.hb, by have := f.hl; simp at this ⊢; omega, f.hB⟩
/-- what a part called in between adds -/
theorem FS.sub {new' : List PV} {rows' : List Rw} {hds' : List Hnd} (f : FS ns n r h S0 ps0 hs0 S new rows hds) (g : FS ns n r h S (ps0 ++ new) (hs0 ++ hds.map Hnd.pv) S' new' rows' hds') : FS ns n r h S0 ps0 hs0 S' (new ++ new') (rows ++ rows') (hds ++ hds') := by
  have c := f.c
  refine ⟨c, g.dr, by rw [g.rw_, List.append_assoc], by rw [g.hh, List.map_append, List.append_assoc], Nat.le_trans f.len g.len, fun i h1 h2 h3 h4 => by rw [g.fr i (Nat.lt_of_lt_of_le h1 f.len) h2 h3 h4]; exact f.fr i h1 h2 h3 h4, ?_, f.hb, by have := f.hl; have := g.hl; rw [List.length_append, List.length_append]; omega, fun x hx => (List.mem_append.mp hx).elim (f.hB x) (g.hB x)⟩
  have k : RWs S0.length S' new rows := f.rws.keep fun x h1 h2 => g.fr x h2 (by have := c.n0; omega) (by have := c.r0; omega) (by have := c.h0; omega)
  exact k.app (m := S.length) (fun i x e => (f.rws.ref_lt e).2) g.rws f.len
theorem FS.c' (f : FS ns n r h S0 ps0 hs0 S new rows hds) : FC n r h S := ⟨f.c.nr, f.c.nh, f.c.rh, Nat.lt_of_lt_of_le f.c.n0 f.len, Nat.lt_of_lt_of_le f.c.r0 f.len, Nat.lt_of_lt_of_le f.c.h0 f.len⟩
/-- a handler is put at the end -/
theorem FS.hpush (f : FS ns n r h S0 ps0 hs0 S new rows hds) (x : Hnd) (hz : hds.length < rows.length) (hx : x.d ≤ 200) : FS ns n r h S0 ps0 hs0 (S.set h (some (.lst, hs0 ++ hds.map Hnd.pv ++ [x.pv]))) new rows (hds ++ [x]) := by
  have c := f.c
  have h1 := c.h0; have h2 := f.len
  obtain ⟨a, b, s, e, h0⟩ := f.dr
  refine ⟨c, ⟨a, b, s, by rw [List.getElem?_set_ne (Ne.symm c.nh)]; exact e, h0⟩, by rw [List.getElem?_set_ne (Ne.symm c.rh)]; exact f.rw_, ?_, by rw [List.length_set]; exact h2, fun i q1 q2 q3 q4 => by rw [List.getElem?_set_ne (Ne.symm q4)]; exact f.fr i q1 q2 q3 q4, f.rws.keep fun i q1 q2 => List.getElem?_set_ne (by omega), f.hb, by rw [List.length_append]; simp; omega, fun y hy => (List.mem_append.mp hy).elim (f.hB y) fun hy => by rw [List.mem_singleton.mp hy]; exact hx⟩
  rw [List.getElem?_set_self (by omega)]
  simp
end
end Law

/-! Gd2: stretches with jumps. -/
namespace Law
open PySem PySem.Spec Pv
theorem Sg.cons {lo hi a : Nat} {r : Rw} {rs : List Rw} {hs : List Hnd} {D : Nat → Nat} (h : RwOk lo hi D a r) (h' : Sg lo hi (a + 1) rs hs D) : Sg lo hi a (r :: rs) hs D := by
  refine ⟨fun i x q => ?_, h'.hd⟩
  cases i with
  | zero => cases q; exact h
  | succ i =>
    have := h'.row i x (by simpa using q)
    rw [show a + 1 + i = a + (i + 1) by omega] at this
    exact this
theorem Blk.choice {a b l l' : Nat} {v rows1 rows2 : List Rw} {h1 h2 : List Hnd} (hv : Blk b a b (b + 1) v []) (B1 : Blk b (a + v.length + 1) b b rows1 h1) (B2 : Blk b (a + v.length + 1 + rows1.length + 1) b b rows2 h2) (hl : l ≤ 1000000) (hl' : l' ≤ 1000000) :
    Blk b a b b (v ++ ⟨.ji (a + v.length + 1 + rows1.length + 1), l⟩ :: (rows1 ++ ⟨.jp (a + v.length + 1 + rows1.length + 1 + rows2.length), l'⟩ :: rows2)) (h1 ++ h2) := by
  obtain ⟨Dv, sv, v1, v2, v3⟩ := hv
  obtain ⟨D1, s1, p1, p2, p3⟩ := B1
  obtain ⟨D2, s2, q1, q2, q3⟩ := B2
  have lt : (v ++ ⟨.ji (a + v.length + 1 + rows1.length + 1), l⟩ :: (rows1 ++ ⟨.jp (a + v.length + 1 + rows1.length + 1 + rows2.length), l'⟩ :: rows2)).length = v.length + 1 + rows1.length + 1 + rows2.length := by simp; omega
  generalize hx : a + v.length + 1 + rows1.length + 1 = T1 at *
  generalize hy : a + v.length = x at *
  let E : Nat → Nat := fun i => if i < x then Dv i else if i = x then b + 1 else if i < T1 then D1 i else D2 i
  have ev : ∀ i, a ≤ i → i ≤ a + v.length → E i = Dv i := fun i _ h => by
    show (if _ then _ else _) = _
    by_cases z : i < x
    · rw [if_pos z]
    · have : i = x := by omega
      rw [if_neg z, if_pos this, this, v2]
  have e1 : ∀ i, x + 1 ≤ i → i ≤ x + 1 + rows1.length → E i = D1 i := fun i h1 h2 => by
    show (if _ then _ else _) = _
    rw [if_neg (by omega), if_neg (by omega), if_pos (by omega)]
  have e2 : ∀ i, T1 ≤ i → i ≤ T1 + rows2.length → E i = D2 i := fun i h1 h2 => by
    show (if _ then _ else _) = _
    rw [if_neg (by omega), if_neg (by omega), if_neg (by omega)]
  have ex : E x = b + 1 := by
    show (if _ then _ else _) = _
    rw [if_neg (by omega), if_pos rfl]
  have hi : a + (v ++ ⟨.ji T1, l⟩ :: (rows1 ++ ⟨.jp (T1 + rows2.length), l'⟩ :: rows2)).length = T1 + rows2.length := by rw [lt]; omega
  refine Blk.of (D := E) ?_ ((ev a (Nat.le_refl _) (by omega)).trans v1) (by rw [hi]; exact (e2 _ (by omega) (Nat.le_refl _)).trans q2) fun j j1 j2 => ?_
  · rw [hi]
    have k : Sg a (T1 + rows2.length) a (v ++ ⟨.ji T1, l⟩ :: (rows1 ++ ⟨.jp (T1 + rows2.length), l'⟩ :: rows2)) ([] ++ (h1 ++ h2)) E := by
      refine (Sg.of sv (Nat.le_refl _) (by omega) ev).app ?_
      rw [hy]
      refine Sg.cons (r := ⟨.ji T1, l⟩) ⟨⟨trivial, hl⟩, by rw [ex]; show 1 ≤ _; omega, fun _ => ?_, fun t z => ?_⟩ ?_
      · rw [e1 _ (Nat.le_refl _) (by omega), p1, ex] <;> rfl
      · cases z
        exact ⟨by omega, by omega, by rw [e2 _ (Nat.le_refl _) (by omega), q1, ex] <;> rfl⟩
      · refine (Sg.of s1 (by omega) (by omega) e1).app ?_
        refine Sg.cons (r := ⟨.jp (T1 + rows2.length), l'⟩) ⟨⟨trivial, hl'⟩, Nat.zero_le _, fun z => (by cases z), fun t z => ?_⟩ ?_
        · cases z
          refine ⟨by omega, by omega, ?_⟩
          rw [e2 _ (by omega) (Nat.le_refl _), q2, e1 _ (by omega) (by omega), p2]
          rfl
        · rw [hx]
          exact Sg.of s2 (by omega) (by omega) e2
    simpa using k
  · rw [hi] at j2
    by_cases z : j < x
    · rw [ev j j1 (by omega)]; exact v3 j j1 (by omega)
    · by_cases z2 : j = x
      · rw [z2, ex]; omega
      · by_cases z3 : j < T1
        · rw [e1 j (by omega) (by omega)]
          by_cases z4 : j < x + 1 + rows1.length
          · exact p3 j (by omega) z4
          · have : j = x + 1 + rows1.length := by omega
            rw [this, p2]; exact Nat.le_refl _
        · rw [e2 j (by omega) (by omega)]; exact q3 j (by omega) (by omega)
/-- a last row that leads back -/
theorem Blk.back {f a b e : Nat} {rs : List Rw} {hs : List Hnd} {r : Rw} (B : Blk f a b e rs hs) (hf : f ≤ e) (g : r.good) (hr : r.i.rem ≤ e) (he : e - r.i.rem + r.i.push = b) (ht : r.i.tgt = some a) : Blk f a b b (rs ++ [r]) hs := by
  obtain ⟨D, s, p1, p2, p3⟩ := B
  have hl : a + (rs ++ [r]).length = a + rs.length + 1 := by simp; omega
  have e1 : ∀ i, a ≤ i → i ≤ a + rs.length → (if i ≤ a + rs.length then D i else b) = D i := fun i _ h => if_pos h
  refine Blk.of (D := fun i => if i ≤ a + rs.length then D i else b) ?_ ((e1 a (Nat.le_refl _) (by omega)).trans p1) (by rw [hl]; exact if_neg (by omega)) fun j j1 j2 => ?_
  · have k : Sg a (a + (rs ++ [r]).length) a (rs ++ [r]) (hs ++ []) (fun i => if i ≤ a + rs.length then D i else b) := by
      refine (Sg.of s (Nat.le_refl _) (by omega) e1).app (Sg.one ⟨g, ?_, fun _ => ?_, fun t z => ?_⟩)
      · rw [e1 _ (by omega) (Nat.le_refl _), p2]; exact hr
      · rw [if_neg (by omega), e1 _ (by omega) (Nat.le_refl _), p2]; exact he.symm
      · rw [ht] at z
        cases z
        exact ⟨Nat.le_refl _, by omega, by rw [e1 a (Nat.le_refl _) (by omega), p1, e1 _ (by omega) (Nat.le_refl _), p2]; exact he.symm⟩
    simpa using k
  · rw [hl] at j2
    rw [e1 j j1 (by omega)]
    by_cases z : j < a + rs.length
    · exact p3 j j1 z
    · have : j = a + rs.length := by omega
      rw [this, p2]; exact hf
theorem Blk.guard {a b l : Nat} {rows1 rows2 : List Rw} {h1 hx : List Hnd} {k : Option Str} (B1 : Blk b a b b rows1 h1) (B2 : Blk b (a + rows1.length + 1) b b rows2 []) (hl : l ≤ 1000000)
    (hh : ∀ x ∈ hx, x = ⟨a, a + rows1.length, a + rows1.length + 1, b, k⟩ ∧ 0 < rows1.length ∧ x.good) : Blk b a b b (rows1 ++ ⟨.jp (a + rows1.length + 1 + rows2.length), l⟩ :: rows2) (h1 ++ hx) := by
  obtain ⟨D1, s1, p1, p2, p3⟩ := B1
  obtain ⟨D2, s2, q1, q2, q3⟩ := B2
  generalize hx' : a + rows1.length = x at *
  have lt : a + (rows1 ++ ⟨.jp (x + 1 + rows2.length), l⟩ :: rows2).length = x + 1 + rows2.length := by simp; omega
  let E : Nat → Nat := fun i => if i ≤ x then D1 i else D2 i
  have e1 : ∀ i, a ≤ i → i ≤ a + rows1.length → E i = D1 i := fun i _ h => if_pos (by omega)
  have e2 : ∀ i, x + 1 ≤ i → i ≤ x + 1 + rows2.length → E i = D2 i := fun i h _ => if_neg (by omega)
  refine Blk.of (D := E) ?_ ((e1 a (Nat.le_refl _) (by omega)).trans p1) (by rw [lt]; exact (e2 _ (by omega) (Nat.le_refl _)).trans q2) fun j j1 j2 => ?_
  · rw [lt]
    have k : Sg a (x + 1 + rows2.length) a (rows1 ++ ⟨.jp (x + 1 + rows2.length), l⟩ :: rows2) (h1 ++ []) E := by
      refine (Sg.of s1 (Nat.le_refl _) (by omega) e1).app ?_
      rw [hx']
      refine Sg.cons (r := ⟨.jp (x + 1 + rows2.length), l⟩) ⟨⟨trivial, hl⟩, Nat.zero_le _, fun z => (by cases z), fun t z => ?_⟩ ?_
      · cases z
        refine ⟨by omega, by omega, ?_⟩
        rw [e2 _ (by omega) (Nat.le_refl _), q2, e1 x (by omega) (by omega), p2] <;> rfl
      · exact Sg.of s2 (by omega) (by omega) e2
    refine ⟨by simpa using k.row, fun y hy => ?_⟩
    rcases List.mem_append.mp hy with hy | hy
    · exact k.hd y (by simpa using hy)
    · obtain ⟨rfl, z, gd⟩ := hh y hy
      exact ⟨gd, Nat.le_refl _, by show a < x; omega, by show x ≤ _; omega, by show a ≤ x + 1; omega, by show x + 1 ≤ _; omega, (e2 _ (Nat.le_refl _) (by omega)).trans q1, fun j j1 j2 => by
        have j1 : a ≤ j := j1
        have j2 : j < x := j2
        show b ≤ E j
        rw [e1 j j1 (by omega)]
        exact p3 j j1 (by omega)⟩
  · rw [lt] at j2
    by_cases z : j < x
    · rw [e1 j j1 (by omega)]; exact p3 j j1 (by omega)
    · by_cases z2 : j = x
      · rw [z2, e1 x (by omega) (by omega), p2]; exact Nat.le_refl _
      · rw [e2 j (by omega) (by omega)]; exact q3 j (by omega) (by omega)
end Law

/-! G7: rules for the parts that call one another. -/
namespace Law
open PySem PySem.Spec PyProof.Rows L2 Pv
/-- a part adds a good stretch -/
def FamOk (F : List PV → Sto → R PV) (d cap : Nat) (lim : Nat → Nat) : Prop := ∀ (ns : List Int) (n r h : Nat) (S : Sto) (ps hs : List PV) (b : Nat), FC n r h S → DR n ns S → S[r]? = some (some (.lst, ps)) → S[h]? = some (some (.lst, hs)) → hs.length ≤ ps.length → ps.length ≤ cap → b + d ≤ 100 →
  okR (F [.ref n, .ref r, .ref h, .int (d : Nat), .int (b : Nat)] S) fun _ S' => ∃ new rows hds, FS ns n r h S ps hs S' new rows hds ∧ Blk b ps.length b b rows hds ∧ ps.length + rows.length ≤ lim ps.length
section
variable {ns : List Int} {n r h : Nat} {S0 S S' : Sto} {ps0 hs0 new : List PV} {rows : List Rw} {hds : List Hnd} {Γ : Gam} {i : Nat} {Q : PV → Sto → Prop} {P : RS → Prop} {t u : SF} {as : AF} {te tl td tb : EF}
theorem fline (f : FS ns n r h S0 ps0 hs0 S new rows hds) (hi : Γ[i]? = some (some (.ref n))) (k : ∀ (l : Nat) S', l ≤ 1000000 → FS ns n r h S0 ps0 hs0 S' new rows hds → Q (.int l) S') : okR (eCallW f_law_line (aCons (eV i) aNil) Γ S) Q :=
  Pv.W.callW (Pv.W.cons (Pv.W.var hi (Pv.W.nil (gline f.gs fun l S' hl g => k l S' hl (f.back0 g)))))
theorem fdraw (f : FS ns n r h S0 ps0 hs0 S new rows hds) {m : Int} (hi : Γ[i]? = some (some (.ref n))) (k : ∀ (j : Nat) S', (j : Int) < m → FS ns n r h S0 ps0 hs0 S' new rows hds → Q (.int j) S') (hm : 0 < m := by decide) (hm2 : m < 1073741824 := by decide) :
    okR (eCallW f_law_draw (aCons (eV i) (aCons (eC (.int m)) aNil)) Γ S) Q := gdraw f.gs hi (fun j S' hj g => k j S' hj (f.back0 g)) hm hm2
theorem fpickL (ls : List Nat) {m : Int} (f : FS ns n r h S0 ps0 hs0 S new rows hds) (ha : as Γ S = .ok (ls.map fun l => .int (l : Nat)) S) (hi : Γ[i]? = some (some (.ref n))) (hl : m = ls.length) (k : ∀ l ∈ ls, ∀ S', FS ns n r h S0 ps0 hs0 S' new rows hds → Q (.int (l : Nat)) S') (h0 : 0 < m := by decide) (h1 : m < 100 := by decide) :
    okR (eOp ixF (eLst false as) (eCallW f_law_draw (aCons (eV i) (aCons (eC (.int m)) aNil))) Γ S) Q := gpickL ls f.gs ha hi hl (fun l hl S' g => k l hl S' (f.back0 g)) h0 h1
theorem flen (f : FS ns n r h S0 ps0 hs0 S new rows hds) (h1 : Γ[i]? = some (some (.ref r))) (q : Q (.int (ps0.length + rows.length : Nat)) S) : okR (eCall lenF (aCons (eV i) aNil) Γ S) Q := glen f.gs h1 (by rw [f.lens]; exact q)
/-- a row put at the end, no one changes it -/
theorem frow (f : FS ns n r h S0 ps0 hs0 S new rows hds) (h1 : Γ[1]? = some (some (.ref r))) (hz : ps0.length + rows.length < 100000)
    (k : okR (te Γ S) fun v S1 => ∃ x : Rw, v = x.pv ∧ FS ns n r h S0 ps0 hs0 S1 new rows hds ∧ ∀ S2 new2, FS ns n r h S0 ps0 hs0 S2 new2 (rows ++ [x]) hds → rsP (.nx Γ S2) P) : rsP (sExpr (eM "list" appendF (eV 1) (aCons te aNil)) Γ S) P := by
  refine Pv.W.expr (Pv.W.meth (Pv.W.var h1 ⟨?_, Pv.W.cons (k.mono fun v S1 ⟨x, e, f1, k⟩ => Pv.W.nil ?_)⟩))
  · rw [tyP_refD, f.rw_]; rfl
  · subst e
    refine ⟨.non, _, ?_, k _ _ (f1.back (rows' := [x]) (f1.gs.push x.pv))⟩
    have z : (ps0 ++ new).length < sizeLine := by have : sizeLine = 16777216 := sizeLine_eq; rw [f.lens]; omega
    show lstF _ _ _ _ = _
    unfold lstF
    simp only [f1.rw_, Option.join_some]
    rw [if_pos z]
    rfl
/-- a row put at the end that may be changed -/
theorem fcell (f : FS ns n r h S0 ps0 hs0 S new rows hds) (h1 : Γ[1]? = some (some (.ref r))) (hz : ps0.length + rows.length < 100000)
    (k : okR (te Γ S) fun v S1 => okR (tl Γ S1) fun w S2 => ∃ x : Rw, v = x.i.pv ∧ w = .int (x.l : Nat) ∧ FS ns n r h S0 ps0 hs0 S2 new rows hds ∧ ∀ S3 c, FS ns n r h S0 ps0 hs0 S3 (new ++ [.ref c]) (rows ++ [x]) hds → rsP (.nx Γ S3) P) :
    rsP (sExpr (eM "list" appendF (eV 1) (aCons (eLst true (aCons te (aCons tl aNil))) aNil)) Γ S) P := by
  refine Pv.W.expr (Pv.W.meth (Pv.W.var h1 ⟨?_, Pv.W.cons (Pv.W.lstT (Pv.W.cons (k.mono fun v S1 k2 => Pv.W.cons (k2.mono fun w S2 ⟨x, e1, e2, f2, k3⟩ => Pv.W.nil ⟨by have : sizeLine = 16777216 := sizeLine_eq; simp; omega, Pv.W.nil ?_⟩))))⟩))
  · rw [tyP_refD, f.rw_]; rfl
  · subst e1 e2
    refine ⟨.non, _, ?_, k3 _ S2.length (f2.cell x)⟩
    have z : (ps0 ++ new).length < sizeLine := by have : sizeLine = 16777216 := sizeLine_eq; rw [f.lens]; omega
    have hr : r < S2.length := (List.getElem?_eq_some_iff.mp f2.rw_).1
    show lstF _ _ _ _ = _
    unfold lstF
    simp only [List.getElem?_append_left hr, f2.rw_, Option.join_some]
    rw [if_pos z]
    rfl
theorem fsub {F : List PV → Sto → R PV} {d cap b : Nat} {lim : Nat → Nat} (hF : FamOk F d cap lim) (f : FS ns n r h S0 ps0 hs0 S new rows hds) (h0 : Γ[0]? = some (some (.ref n))) (h1 : Γ[1]? = some (some (.ref r))) (h2 : Γ[2]? = some (some (.ref h)))
    (h3 : td Γ S = .ok (.int (d : Nat)) S) (h4 : tb Γ S = .ok (.int (b : Nat)) S) (hc : ps0.length + rows.length ≤ cap)
    (k : ∀ S' new' rows' hds', FS ns n r h S0 ps0 hs0 S' (new ++ new') (rows ++ rows') (hds ++ hds') → Blk b (ps0.length + rows.length) b b rows' hds' → ps0.length + rows.length + rows'.length ≤ lim (ps0.length + rows.length) → new'.length = rows'.length → rsP (.nx Γ S') P) (hbd : b + d ≤ 100 := by omega) :
    rsP (sExpr (eCallW F (aCons (eV 0) (aCons (eV 1) (aCons (eV 2) (aCons td (aCons tb aNil)))))) Γ S) P := by
  refine Pv.W.expr (Pv.W.callW (Pv.W.cons (Pv.W.var h0 (Pv.W.cons (Pv.W.var h1 (Pv.W.cons (Pv.W.var h2 (Pv.W.cons (okR.of h3 (Pv.W.cons (okR.of h4 (Pv.W.nil ?_))))))))))))
  refine (hF ns n r h S (ps0 ++ new) (hs0 ++ hds.map Hnd.pv) b f.c' f.dr f.rw_ f.hh (by have := f.hb; have := f.hl; rw [f.lens]; simp; omega) (by rw [f.lens]; exact hc) hbd).mono fun v S' ⟨new', rows', hds', g, bk, lm⟩ => ?_
  rw [f.lens] at bk lm
  exact k S' new' rows' hds' (f.sub g) bk lm g.rws.len
theorem fpatch {pa pb : List PV} {ra rb : List Rw} {x : Rw} {c j : Nat} {s : Str} (mk : Nat → Itr) (f : FS ns n r h S0 ps0 hs0 S (pa ++ .ref c :: pb) (ra ++ x :: rb) hds) (hl : pa.length = ra.length) (h1 : Γ[1]? = some (some (.ref r))) (hj : Γ[j]? = some (some (.int (ps0.length + ra.length : Nat))))
    (hm : ∀ t : Nat, (mk t).pv = .con .own .tup [.str s, .int (t : Nat)]) (k : ∀ S', FS ns n r h S0 ps0 hs0 S' (pa ++ .ref c :: pb) (ra ++ ⟨mk (ps0.length + (ra ++ x :: rb).length), x.l⟩ :: rb) hds → rsP (.nx Γ S') P) :
    rsP (sAsg (eTup (aCons (eC (.str s)) (aCons (eCall lenF (aCons (eV 1) aNil)) aNil))) (gSubF setLF (eOp ixF (eV 1) (eV j)) (eC (.int 0))) Γ S) P := by
  refine Pv.W.asg (gtup2 (Pv.W.con (flen f h1 ?_)))
  have hc : S[c]? = some (some (.lst, [x.i.pv, .int x.l])) := by
    rcases f.rws.at_ pa.length (.ref c) x (by simp) (by rw [hl]; simp) with q | ⟨d, q, q1, q2⟩
    · cases q
    · cases q; exact q2
  refine okR.bind (Pv.W.op (Pv.W.var h1 (Pv.W.var hj ⟨.ref c, S, ?_, ?_⟩)))
  · show (ixB S (.ref r) (.int _)).map _ = _
    rw [ixB_ref f.rw_, atI_nat]
    have : (ps0 ++ (pa ++ .ref c :: pb))[ps0.length + ra.length]? = some (.ref c) := by
      rw [List.getElem?_append_right (by omega), ← hl]
      simp
    rw [this]
    rfl
  · have e : setLF (.ref c) (.int 0) (.con .own .tup [.str s, .int (ps0.length + (ra ++ x :: rb).length : Nat)]) S = some (S.set c (some (.lst, [(mk (ps0.length + (ra ++ x :: rb).length)).pv, .int x.l]))) := by
      rw [setLF_ref hc, hm]
      rfl
    show okR (match setLF (.ref c) (.int 0) (.con .own .tup [.str s, .int (ps0.length + (ra ++ x :: rb).length : Nat)]) S with
      | some S3 => R.ok Γ S3
      | none => .bad) _
    rw [e]
    exact k _ (f.patch ⟨mk (ps0.length + (ra ++ x :: rb).length), x.l⟩ hl)
end
end Law

/-! G8: choices, loops, guarded parts. -/
namespace Law
open PySem PySem.Spec PyProof.Rows L2 Pv
def Bd : Nat → Nat
  | 0 => 68
  | d + 1 => max (Bd d) 75 + 28
def blim (d : Nat) : Nat → Nat := fun m => max (Bd d) (m + 18)
def clim (d : Nat) : Nat → Nat := fun _ => max (Bd d) 75 + 19
theorem choice_ok {F : List PV → Sto → R PV} {d : Nat} (hF : FamOk F d 1000 (blim d)) (hd : Bd d ≤ 900) : FamOk (runW 5 8 (body_law_choice F)) d 50 (clim d) := by
  intro ns n r h S ps hs b c dr hr hh hb hc hbd
  have f := FS.start c dr hr hh hb
  refine Pv.W.run rfl (Pv.W.seq (Pv.W.set (fline f rfl fun l S1 hl f1 => Pv.W.go ?_)))
  refine Pv.W.seq (svalue f1.gs hl (by simp; omega) rfl rfl rfl fun v S2 g2 hv => Pv.W.go ?_)
  have f2 := f1.back g2
  simp only [List.nil_append] at f2
  have hvl := hv.len
  refine Pv.W.seq (fcell f2 rfl (by omega) (gtup2 (Pv.W.con (Pv.W.con (Pv.W.var rfl ⟨⟨.ji 0, l⟩, rfl, rfl, f2, fun S3 c1 f3 => Pv.W.go ?_⟩)))))
  have l3 : (v ++ [(⟨.ji 0, l⟩ : Rw)]).length = v.length + 1 := by simp
  refine Pv.W.seq (Pv.W.set (Pv.W.op (flen f3 rfl (Pv.W.con ⟨.int (ps.length + v.length : Nat), S3, ?_, Pv.W.go ?_⟩))))
  · rw [l3]
    show some (PV.int _, S3) = some (PV.int _, S3)
    congr 3
    omega
  refine Pv.W.seq (fsub hF f3 rfl rfl rfl rfl rfl (by rw [l3]; omega) fun S4 new1 rows1 hds1 f4 bk1 lm1 hn1 => Pv.W.go ?_)
  rw [l3] at bk1 lm1
  have l4 : (v ++ [(⟨.ji 0, l⟩ : Rw)] ++ rows1).length = v.length + 1 + rows1.length := by simp; omega
  have lm1' : ps.length + (v.length + 1) + rows1.length ≤ max (Bd d) 75 := Nat.le_trans lm1 (by unfold blim; omega)
  refine Pv.W.seq (fcell f4 rfl (by rw [l4]; omega) (gtup2 (Pv.W.con (Pv.W.con (fpickL [0, l] f4 rfl rfl rfl fun l' hl' S5 f5 => ⟨⟨.jp 0, l'⟩, rfl, rfl, f5, fun S6 c2 f6 => Pv.W.go ?_⟩)))))
  have e1 : l' ≤ 1000000 := by simp at hl'; omega
  have l6 : (v ++ [(⟨.ji 0, l⟩ : Rw)] ++ rows1 ++ [(⟨.jp 0, l'⟩ : Rw)]).length = v.length + 1 + rows1.length + 1 := by simp; omega
  refine Pv.W.seq (Pv.W.set (Pv.W.op (flen f6 rfl (Pv.W.con ⟨.int (ps.length + (v.length + 1 + rows1.length) : Nat), S6, ?_, Pv.W.go ?_⟩))))
  · rw [l6]
    show some (PV.int _, S6) = some (PV.int _, S6)
    congr 3
    omega
  have f6' : FS ns n r h S ps hs S6 (v.map Rw.pv ++ .ref c1 :: (new1 ++ [.ref c2])) (v ++ ⟨.ji 0, l⟩ :: (rows1 ++ [⟨.jp 0, l'⟩])) ([] ++ hds1) := by simpa using f6
  refine Pv.W.seq (fpatch .ji f6' (by simp) rfl rfl (fun t => rfl) fun S7 f7 => Pv.W.go ?_)
  have l7 : ps.length + (v ++ (⟨.ji 0, l⟩ : Rw) :: (rows1 ++ [⟨.jp 0, l'⟩])).length = ps.length + v.length + 1 + rows1.length + 1 := by simp; omega
  rw [l7] at f7
  generalize hT : ps.length + v.length + 1 + rows1.length + 1 = T1 at f7
  have l8 : ps.length + (v ++ (⟨.ji T1, l⟩ : Rw) :: (rows1 ++ [⟨.jp 0, l'⟩])).length = T1 := by simp; omega
  refine Pv.W.seq (fsub hF f7 rfl rfl rfl rfl rfl (by rw [l8]; omega) fun S8 new2 rows2 hds2 f8 bk2 lm2 hn2 => Pv.W.go ?_)
  rw [l8] at bk2 lm2
  have f8' : FS ns n r h S ps hs S8 ((v.map Rw.pv ++ .ref c1 :: new1) ++ .ref c2 :: new2) ((v ++ ⟨.ji T1, l⟩ :: rows1) ++ ⟨.jp 0, l'⟩ :: rows2) (hds1 ++ hds2) := by simpa using f8
  have l9 : (v ++ (⟨.ji T1, l⟩ : Rw) :: rows1).length = v.length + 1 + rows1.length := by simp; omega
  refine fpatch .jp f8' (by simp [hn1]) rfl (by rw [l9]; rfl) (fun t => rfl) fun S9 f9 => ?_
  have l10 : ps.length + ((v ++ ⟨.ji T1, l⟩ :: rows1) ++ (⟨.jp 0, l'⟩ : Rw) :: rows2).length = T1 + rows2.length := by simp; omega
  rw [l10] at f9
  refine ⟨_, _, _, f9, ?_, ?_⟩
  · subst hT
    have bk := Blk.choice (hv.blk ps.length b) bk1 bk2 hl e1
    simpa using bk
  · have : blim d T1 ≤ max (Bd d) 75 + 19 := by unfold blim; omega
    have l11 : ((v ++ ⟨.ji T1, l⟩ :: rows1) ++ (⟨.jp (T1 + rows2.length), l'⟩ : Rw) :: rows2).length = v.length + 1 + rows1.length + 1 + rows2.length := by simp; omega
    rw [l11]
    unfold clim
    omega
end Law

/-! G9: loops, guarded parts. -/
namespace Law
open PySem PySem.Spec PyProof.Rows L2 Pv
def ltail (l : Nat) : List Rw := [⟨.ld "a", l⟩, ⟨.c 1, l⟩, ⟨.op .sub, l⟩, ⟨.op .copy, l⟩, ⟨.sto "a", l⟩, ⟨.c 0, l⟩, ⟨.op .less, l⟩, ⟨.op .not, l⟩]
theorem blk_ltail {l a b : Nat} (hl : l ≤ 1000000) : Blk b a b (b + 1) (ltail l) [] := by
  have one : ∀ (a x y : Nat) (i : Itr), i.good → i.rem ≤ x → y = x - i.rem + i.push → i.last = false → i.tgt = none → b ≤ x → Blk b a x y [⟨i, l⟩] [] := fun a x y i h1 h2 h3 h4 h5 h6 => Blk.one ⟨h1, hl⟩ h2 h3 h4 h5 h6
  have s1 := one a b (b + 1) (.ld "a") (show WdOk "a" by decide +kernel) (Nat.zero_le _) rfl rfl rfl (by omega)
  have s2 := one (a + 1) (b + 1) (b + 2) (.c 1) ⟨by decide, by decide⟩ (Nat.zero_le _) rfl rfl rfl (by omega)
  have s3 := one (a + 1 + 1) (b + 2) (b + 1) (.op .sub) trivial (by show 2 ≤ _; omega) (by show _ = b + 2 - 2 + 1; omega) rfl rfl (by omega)
  have s4 := one (a + 1 + 1 + 1) (b + 1) (b + 2) (.op .copy) trivial (by show 1 ≤ _; omega) (by show _ = b + 1 - 1 + 2; omega) rfl rfl (by omega)
  have s5 := one (a + 1 + 1 + 1 + 1) (b + 2) (b + 1) (.sto "a") (show WdOk "a" by decide +kernel) (by show 1 ≤ _; omega) (by show _ = b + 2 - 1 + 0; omega) rfl rfl (by omega)
  have s6 := one (a + 1 + 1 + 1 + 1 + 1) (b + 1) (b + 2) (.c 0) ⟨by decide, by decide⟩ (Nat.zero_le _) rfl rfl rfl (by omega)
  have s7 := one (a + 1 + 1 + 1 + 1 + 1 + 1) (b + 2) (b + 1) (.op .less) trivial (by show 2 ≤ _; omega) (by show _ = b + 2 - 2 + 1; omega) rfl rfl (by omega)
  have s8 := one (a + 1 + 1 + 1 + 1 + 1 + 1 + 1) (b + 1) (b + 1) (.op .not) trivial (by show 1 ≤ _; omega) (by show _ = b + 1 - 1 + 1; omega) rfl rfl (by omega)
  exact s1.app (s2.app (s3.app (s4.app (s5.app (s6.app (s7.app s8))))))
theorem loop_ok {F : List PV → Sto → R PV} {d : Nat} (hF : FamOk F d 1000 (blim d)) (hd : Bd d ≤ 900) : FamOk (runW 5 8 (body_law_loop F)) d 50 (clim d) := by
  intro ns n r h S ps hs b c dr hr hh hb hc hbd
  have f := FS.start c dr hr hh hb
  refine Pv.W.run rfl (Pv.W.seq (Pv.W.set (fline f rfl fun l S1 hl f1 => Pv.W.go ?_)))
  refine Pv.W.seq (Pv.W.set (flen f1 rfl (Pv.W.go ?_)))
  refine Pv.W.seq (fsub hF f1 rfl rfl rfl rfl rfl (by simp; omega) fun S2 new1 rows1 hds1 f2 bk1 lm1 hn1 => Pv.W.go ?_)
  simp only [List.nil_append, List.length_nil, Nat.add_zero] at f2 bk1 lm1
  have lm : ps.length + rows1.length ≤ max (Bd d) 68 := Nat.le_trans lm1 (by unfold blim; omega)
  have fin : ∀ (rs : List Rw) (S' : Sto) (new' : List PV), FS ns n r h S ps hs S' new' (rows1 ++ rs) hds1 → rs.length ≤ 9 → Blk b ps.length b b (rows1 ++ rs) hds1 → ∃ new rows hds, FS ns n r h S ps hs S' new rows hds ∧ Blk b ps.length b b rows hds ∧ ps.length + rows.length ≤ clim d ps.length := fun rs S' new' f' hr' bk => by
    refine ⟨_, _, _, f', bk, ?_⟩
    rw [List.length_append]
    unfold clim
    omega
  refine Pv.W.seq (Pv.W.set (fdraw f2 rfl fun j S3 hj f3 => Pv.W.go ?_))
  refine Pv.W.iteEq (x := j) (y := 0) rfl (fun _ => ?_) fun _ => ?_
  · refine frow f3 rfl (by omega) (growW (gtup2 (Pv.W.con (Pv.W.var rfl (fpickL [0, l] f3 rfl rfl rfl fun l' hl' S4 f4 => ⟨⟨.jp ps.length, l'⟩, rfl, f4, fun S5 new5 f5 => ?_⟩)))))
    have e1 : l' ≤ 1000000 := by simp at hl'; omega
    exact fin _ _ _ f5 (by simp) (bk1.back (r := ⟨.jp ps.length, l'⟩) (Nat.le_refl _) ⟨trivial, e1⟩ (Nat.zero_le _) rfl rfl)
  · have st : ∀ (x : Rw) (k : Nat) {rs : List Rw} {S' : Sto} {new' : List PV} {te : EF} {Γ : Gam} {P : RS → Prop} (f' : FS ns n r h S ps hs S' new' (rows1 ++ rs) hds1), rs.length = k → k < 20 → Γ[1]? = some (some (.ref r)) → okR (te Γ S') (fun v S1 => v = x.pv ∧ S1 = S') → (∀ S2 new2, FS ns n r h S ps hs S2 new2 (rows1 ++ (rs ++ [x])) hds1 → rsP (.nx Γ S2) P) → rsP (sExpr (eM "list" appendF (eV 1) (aCons te aNil)) Γ S') P := fun x k {rs S' new' te Γ P} f' hk hk2 h1 hv k2 =>
      frow f' h1 (by rw [List.length_append]; omega) (hv.mono fun v S1 ⟨e1, e2⟩ => ⟨x, e1, by subst e2; exact f', fun S2 new2 f2 => k2 S2 new2 (by rw [← List.append_assoc]; exact f2)⟩)
    have f3 : FS ns n r h S ps hs S3 new1 (rows1 ++ []) hds1 := by simpa using f3
    refine Pv.W.seq (st ⟨.ld "a", l⟩ 0 f3 rfl (by decide) rfl (growW (gtup2 (Pv.W.con (Pv.W.con (Pv.W.var rfl ⟨rfl, rfl⟩))))) fun S4 n4 f4 => Pv.W.go ?_)
    refine Pv.W.seq (st ⟨.c 1, l⟩ 1 f4 rfl (by decide) rfl (growW (gtup2 (Pv.W.con (Pv.W.con (Pv.W.var rfl ⟨rfl, rfl⟩))))) fun S5 n5 f5 => Pv.W.go ?_)
    refine Pv.W.seq (st ⟨.op .sub, l⟩ 2 f5 rfl (by decide) rfl (growW (gtup1 (Pv.W.con (Pv.W.var rfl ⟨rfl, rfl⟩)))) fun S6 n6 f6 => Pv.W.go ?_)
    refine Pv.W.seq (st ⟨.op .copy, l⟩ 3 f6 rfl (by decide) rfl (growW (gtup1 (Pv.W.con (Pv.W.var rfl ⟨rfl, rfl⟩)))) fun S7 n7 f7 => Pv.W.go ?_)
    refine Pv.W.seq (st ⟨.sto "a", l⟩ 4 f7 rfl (by decide) rfl (growW (gtup2 (Pv.W.con (Pv.W.con (Pv.W.var rfl ⟨rfl, rfl⟩))))) fun S8 n8 f8 => Pv.W.go ?_)
    refine Pv.W.seq (st ⟨.c 0, l⟩ 5 f8 rfl (by decide) rfl (growW (gtup2 (Pv.W.con (Pv.W.con (Pv.W.var rfl ⟨rfl, rfl⟩))))) fun S9 n9 f9 => Pv.W.go ?_)
    refine Pv.W.seq (st ⟨.op .less, l⟩ 6 f9 rfl (by decide) rfl (growW (gtup1 (Pv.W.con (Pv.W.var rfl ⟨rfl, rfl⟩)))) fun S10 n10 f10 => Pv.W.go ?_)
    refine Pv.W.seq (st ⟨.op .not, l⟩ 7 f10 rfl (by decide) rfl (growW (gtup1 (Pv.W.con (Pv.W.var rfl ⟨rfl, rfl⟩)))) fun S11 n11 f11 => Pv.W.go ?_)
    refine st ⟨.ji ps.length, l⟩ 8 f11 rfl (by decide) rfl (growW (gtup2 (Pv.W.con (Pv.W.var rfl (Pv.W.var rfl ⟨rfl, rfl⟩))))) fun S12 n12 f12 => ?_
    refine fin _ _ _ f12 (by simp) ?_
    have bk := Blk.back (r := ⟨.ji ps.length, l⟩) (bk1.app (blk_ltail (a := ps.length + rows1.length) hl)) (by omega) ⟨trivial, hl⟩ (by show 1 ≤ _; omega) (by show b + 1 - 1 + 0 = b; omega) rfl
    simpa [ltail] using bk
end Law

/-! G10: guarded parts. -/
namespace Law
open PySem PySem.Spec PyProof.Rows L2 Pv
section
variable {ns : List Int} {n r h : Nat} {S0 S S' : Sto} {ps0 hs0 new : List PV} {rows : List Rw} {hds : List Hnd} {Γ : Gam} {i : Nat} {Q : PV → Sto → Prop} {P : RS → Prop} {t u : SF} {as : AF}
theorem fplain (f : FS ns n r h S0 ps0 hs0 S new rows hds) (h0 : Γ[0]? = some (some (.ref n))) (h1 : Γ[1]? = some (some (.ref r))) (hz : ps0.length + rows.length < 80000)
    (k : ∀ S' new' rows', FS ns n r h S0 ps0 hs0 S' (new ++ new') (rows ++ rows') hds → new'.length = rows'.length → rows'.length ≤ 9 → (∀ b, Blk b (ps0.length + rows.length) b b rows' []) → rsP (.nx Γ S') P) :
    rsP (sExpr (eCallW f_law_plain (aCons (eV 0) (aCons (eV 1) aNil))) Γ S) P :=
  Pv.W.expr (Pv.W.callW (Pv.W.cons (Pv.W.var h0 (Pv.W.cons (Pv.W.var h1 (Pv.W.nil (gplain f.gs (by rw [f.lens]; exact hz) fun rows' S' g hl bk => k S' _ rows' (f.back g) (List.length_map _) hl (by rw [f.lens] at bk; exact bk))))))))
theorem fpickK (ks : List (Option Str)) {m : Int} (f : FS ns n r h S0 ps0 hs0 S new rows hds) (ha : as Γ S = .ok (ks.map okP) S) (hi : Γ[i]? = some (some (.ref n))) (hl : m = ks.length) (k : ∀ o ∈ ks, ∀ S', FS ns n r h S0 ps0 hs0 S' new rows hds → Q (okP o) S') (h0 : 0 < m := by decide) (h1 : m < 100 := by decide) :
    okR (eOp ixF (eLst false as) (eCallW f_law_draw (aCons (eV i) (aCons (eC (.int m)) aNil))) Γ S) Q :=
  gpick f.gs ha hi (by rw [List.length_map]; exact hl) (fun v hv S' g' => by
    obtain ⟨w, hw, rfl⟩ := List.mem_map.mp hv
    exact k w hw S' (f.back0 g')) h0 h1
theorem fins (f : FS ns n r h S0 ps0 hs0 S new rows hds) (x : Hnd) (hz : hds.length < rows.length) (hp : ps0.length + rows.length < 100000) {k : Nat} (hk : k = (hs0 ++ hds.map Hnd.pv).length) :
    insertF (.ref h) [.int (k : Nat), x.pv] S = some (.non, S.set h (some (.lst, hs0 ++ hds.map Hnd.pv ++ [x.pv]))) := by
  have l : (hs0 ++ hds.map Hnd.pv).length < 100000 := by have := f.hb; rw [List.length_append, List.length_map]; omega
  have z : sizeLine = 16777216 := sizeLine_eq
  subst hk
  show lstF _ _ _ _ = _
  unfold lstF
  simp only [f.hh, Option.join_some]
  rw [if_pos ⟨by omega, by omega, by omega⟩]
  simp only [Int.toNat_natCast, List.take_length, List.drop_length, List.append_nil, Option.map_some]
end
theorem guard_ok {F : List PV → Sto → R PV} {d : Nat} (hF : FamOk F d 1000 (blim d)) (hd : Bd d ≤ 900) : FamOk (runW 5 10 (body_law_guard F)) d 50 (clim d) := by
  intro ns n r h S ps hs b c dr hr hh hb hc hbd
  have f := FS.start c dr hr hh hb
  refine Pv.W.run rfl (Pv.W.seq (Pv.W.set (flen f rfl (Pv.W.go ?_))))
  refine Pv.W.seq (fsub hF f rfl rfl rfl rfl rfl (by simp; omega) fun S1 new1 rows1 hds1 f1 bk1 lm1 hn1 => Pv.W.go ?_)
  simp only [List.nil_append, List.length_nil, Nat.add_zero] at f1 bk1 lm1
  have lm : ps.length + rows1.length ≤ max (Bd d) 68 := Nat.le_trans lm1 (by unfold blim; omega)
  refine Pv.W.seq (Pv.W.set (flen f1 rfl (Pv.W.go ?_)))
  refine Pv.W.seq (fcell f1 rfl (by omega) (gtup2 (Pv.W.con (Pv.W.con (fline f1 rfl fun l S2 hl f2 => ⟨⟨.jp 0, l⟩, rfl, rfl, f2, fun S3 c1 f3 => Pv.W.go ?_⟩)))))
  refine Pv.W.seq (Pv.W.set (Pv.W.call (Pv.W.cons (Pv.W.var rfl (Pv.W.nil ⟨.int ((hs ++ hds1.map Hnd.pv).length : Nat), S3, lenF_ref f3.hh, Pv.W.go ?_⟩)))))
  refine Pv.W.seq (Pv.W.set (fpickK [none, some "zero", some "unbound", some "oops"] f3 rfl rfl rfl fun o ho S4 f4 => Pv.W.go ?_))
  refine Pv.W.seq (Pv.W.set (flen f4 rfl (Pv.W.go ?_)))
  have l4 : (rows1 ++ [(⟨.jp 0, l⟩ : Rw)]).length = rows1.length + 1 := by simp
  refine Pv.W.seq (fplain f4 rfl rfl (by rw [l4]; omega) fun S5 new2 rows2 f5 hn2 hl2 bk2 => Pv.W.go ?_)
  rw [l4] at bk2
  have f5' : FS ns n r h S ps hs S5 (new1 ++ .ref c1 :: new2) (rows1 ++ ⟨.jp 0, l⟩ :: rows2) hds1 := by simpa using f5
  refine Pv.W.seq (fpatch .jp f5' hn1 rfl rfl (fun t => rfl) fun S6 f6 => Pv.W.go ?_)
  have l6 : ps.length + (rows1 ++ (⟨.jp 0, l⟩ : Rw) :: rows2).length = ps.length + rows1.length + 1 + rows2.length := by simp; omega
  rw [l6] at f6
  have l7 : (rows1 ++ (⟨.jp (ps.length + rows1.length + 1 + rows2.length), l⟩ : Rw) :: rows2).length = rows1.length + 1 + rows2.length := by simp; omega
  have lim : ps.length + (rows1 ++ (⟨.jp (ps.length + rows1.length + 1 + rows2.length), l⟩ : Rw) :: rows2).length ≤ clim d ps.length := by
    rw [l7]
    unfold clim
    omega
  refine Pv.W.ite (Pv.W.bE (Pv.W.cmpI (f := fun i j => decide (i > j)) (Pv.W.var rfl (Pv.W.var rfl ⟨(ps.length + rows1.length : Nat), (ps.length : Nat), rfl, rfl, _, rfl, fun hgt => ?_, fun _ => ?_⟩))))
  · have hpos : 0 < rows1.length := by have := of_decide_eq_true hgt; omega
    let x : Hnd := ⟨ps.length, ps.length + rows1.length, ps.length + rows1.length + 1, b, o⟩
    refine Pv.W.expr (Pv.W.meth (Pv.W.var rfl ⟨by rw [tyP_refD, f6.hh]; rfl, Pv.W.cons (Pv.W.var rfl (Pv.W.cons (Pv.W.tup (Pv.W.cons (Pv.W.var rfl (Pv.W.cons (Pv.W.var rfl (Pv.W.cons (Pv.W.var rfl (Pv.W.cons (Pv.W.var rfl (Pv.W.cons (Pv.W.var rfl (Pv.W.nil ⟨by have : sizeLine = 16777216 := sizeLine_eq; simp; omega, Pv.W.nil ?_⟩))))))))))))))⟩))
    have hz : hds1.length < (rows1 ++ (⟨.jp (ps.length + rows1.length + 1 + rows2.length), l⟩ : Rw) :: rows2).length := by rw [l7]; have := f1.hl; omega
    have e := fins f6 x hz (by rw [l7]; omega) (k := (hs ++ hds1.map Hnd.pv).length) rfl
    refine ⟨.non, _, ?_, ⟨_, _, _, f6.hpush x hz (by show b ≤ 200; omega), ?_, lim⟩⟩
    · rw [← e]
      show insertF _ [_, PV.con .own .tup [_, _, PV.int (ps.length + (rows1 ++ [(⟨.jp 0, l⟩ : Rw)]).length : Nat), _, _]] _ = _
      rw [l4]
      rfl
    · refine Blk.guard (k := o) bk1 (bk2 b) hl fun y hy => ?_
      have hy : y = x := by simpa using hy
      subst hy
      refine ⟨rfl, hpos, ?_⟩
      intro w hw
      have hw : o = some w := hw
      subst hw
      refine words_ok (l := ["zero", "unbound", "oops"]) (by decide +kernel) ?_
      simpa using ho
  · refine Pv.W.next ⟨_, _, _, f6, ?_, lim⟩
    have := Blk.guard (hx := []) (k := none) bk1 (bk2 b) hl fun y hy => by simp at hy
    simpa using this
end Law

/-! G11: bodies; the family; all parts. -/
namespace Law
open PySem PySem.Spec PyProof.Rows L2 Pv
def tcap : Nat → Nat
  | 0 => 59
  | d + 1 => max (Bd d) 75 + 19
def tlim (d m : Nat) : Nat := if 50 < m then m + 9 else tcap d
structure Fams (d : Nat) (Fc Fl Fb Fg : List PV → Sto → R PV) : Prop where
  c : FamOk Fc d 50 (clim d)
  l : FamOk Fl d 50 (clim d)
  b : FamOk Fb d 1000 (blim d)
  g : FamOk Fg d 50 (clim d)
theorem Bd_le : ∀ d, d ≤ 3 → Bd d ≤ 900 := by decide
section
variable {ns : List Int} {n r h : Nat} {S0 S S' : Sto} {ps0 hs0 new : List PV} {rows : List Rw} {hds : List Hnd} {P : RS → Prop}
theorem turn_ok {Fc Fl Fb Fg : List PV → Sto → R PV} {d b : Nat} {x y : Option PV} (hd : d ≤ 3) (H : ∀ e, d = e + 1 → Fams e Fc Fl Fb Fg) (f : FS ns n r h S0 ps0 hs0 S new rows hds) (hc : ps0.length + rows.length < 2000)
    (k : ∀ z S' new' rows' hds', FS ns n r h S0 ps0 hs0 S' new' (rows ++ rows') (hds ++ hds') → Blk b (ps0.length + rows.length) b b rows' hds' → ps0.length + rows.length + rows'.length ≤ tlim d (ps0.length + rows.length) →
      rsP (.nx [some (.ref n), some (.ref r), some (.ref h), some (.int (d : Nat)), some (.int (b : Nat)), x, z] S') P) (hbd : b + d ≤ 100 := by omega) :
    rsP (l1_law_body Fc Fl Fb Fg [some (.ref n), some (.ref r), some (.ref h), some (.int (d : Nat)), some (.int (b : Nat)), x, y] S) P := by
  refine Pv.W.seq (Pv.W.set (fdraw f rfl fun j S1 hj f1 => Pv.W.go ?_))
  have plain : 50 < ps0.length + rows.length ∨ ps0.length + rows.length ≤ 50 → rsP (sExpr (eCallW f_law_plain (aCons (eV 0) (aCons (eV 1) aNil))) [some (.ref n), some (.ref r), some (.ref h), some (.int (d : Nat)), some (.int (b : Nat)), x, some (.int (j : Nat))] S1) P := fun hm => by
    refine fplain f1 rfl rfl (by omega) fun S2 new2 rows2 f2 hn hl bk => ?_
    refine k _ S2 _ rows2 [] (by simpa using f2) (bk b) ?_
    unfold tlim
    split
    · omega
    · have : 59 ≤ tcap d := by cases d with
        | zero => exact Nat.le_refl _
        | succ d => show 59 ≤ max (Bd d) 75 + 19; omega
      omega
  refine Pv.W.ite (Pv.W.or (Pv.W.bE (Pv.W.cmpI (f := fun i j => decide (i > j)) (flen f1 rfl (Pv.W.con ⟨(ps0.length + rows.length : Nat), 50, rfl, rfl, _, rfl, fun _ => ⟨fun _ => plain (by omega), fun h => (by cases h)⟩, fun hm => ?_⟩)))))
  have hm : ps0.length + rows.length ≤ 50 := by have := of_decide_eq_false hm; omega
  refine Pv.W.or (Pv.W.bE (Pv.W.eqI (Pv.W.var rfl (Pv.W.con ⟨(d : Nat), 0, rfl, rfl, _, rfl, fun _ => ⟨fun _ => plain (by omega), fun h => (by cases h)⟩, fun h0 => ?_⟩))))
  have h0 : d ≠ 0 := by have := of_decide_eq_false h0; omega
  refine Pv.W.bE (Pv.W.cmpI (f := fun i j => decide (i ≤ j)) (Pv.W.var rfl (Pv.W.con ⟨(j : Nat), 3, rfl, rfl, _, rfl, fun _ => plain (by omega), fun _ => ?_⟩)))
  obtain ⟨e, rfl⟩ : ∃ e, d = e + 1 := ⟨d - 1, by omega⟩
  have F := H e rfl
  have lim : ∀ m, m ≤ clim e (ps0.length + rows.length) → m ≤ tlim (e + 1) (ps0.length + rows.length) := fun m hq => by
    unfold tlim
    rw [if_neg (by omega)]
    exact hq
  have sub1 : ∀ (Γ : Gam) (S : Sto), Γ[3]? = some (some (.int (e + 1 : Nat))) → eOp subF (eV 3) (eC (.int 1)) Γ S = .ok (.int (e : Nat)) S := fun Γ S q => by
    have : eV 3 Γ S = .ok (.int (e + 1 : Nat)) S := by unfold eV; rw [q]
    unfold eOp
    rw [this]
    show R.ok (PV.int _) S = _
    congr 2
    omega
  refine Pv.W.iteEq (x := j) (y := 4) rfl (fun _ => ?_) fun _ => Pv.W.iteEq (x := j) (y := 5) rfl (fun _ => ?_) fun _ => Pv.W.iteEq (x := j) (y := 6) rfl (fun _ => ?_) fun _ => ?_
  · exact fsub F.c f1 rfl rfl rfl (sub1 _ _ rfl) rfl hm fun S2 new2 rows2 hds2 f2 bk lm hn => k _ S2 _ rows2 hds2 f2 bk (lim _ lm)
  · exact fsub F.l f1 rfl rfl rfl (sub1 _ _ rfl) rfl hm fun S2 new2 rows2 hds2 f2 bk lm hn => k _ S2 _ rows2 hds2 f2 bk (lim _ lm)
  · refine Pv.W.seq (frow f1 rfl (by omega) (growW (gtup2 (Pv.W.con (Pv.W.callW (Pv.W.cons (Pv.W.var rfl (Pv.W.nil (gnumber f1.gs fun v S2 v0 v1 g2 => fline (f1.back0 g2) rfl fun l S3 hl f3 => ⟨⟨.c v, l⟩, rfl, f3, fun S4 new4 f4 => Pv.W.go ?_⟩)))))))))
    have l4 : (rows ++ [(⟨.c v, l⟩ : Rw)]).length = rows.length + 1 := by simp
    refine Pv.W.seq (fsub (b := b + 1) F.b f4 rfl rfl rfl (sub1 _ _ rfl) rfl (by rw [l4]; omega) fun S5 new5 rows5 hds5 f5 bk5 lm5 hn5 => Pv.W.go ?_)
    rw [l4] at bk5 lm5
    have lm5' : ps0.length + rows.length + 1 + rows5.length ≤ max (Bd e) 69 := Nat.le_trans (by omega) (Nat.le_trans lm5 (by unfold blim; omega))
    have be := Bd_le e (by omega)
    have l5 : (rows ++ [(⟨.c v, l⟩ : Rw)] ++ rows5).length = rows.length + 1 + rows5.length := by simp; omega
    refine frow f5 rfl (by rw [l5]; omega) (growW ?_)
    refine gpick (vs := [(Itr.op .pop).pv, (Itr.op .print).pv]) f5.gs (by simp [Itr.pv, Opc.name, szl]) rfl rfl (fun w hw S6 g6 => ?_)
    obtain ⟨o, ho, rfl⟩ : ∃ o : Opc, (o = .pop ∨ o = .print) ∧ w = (Itr.op o).pv := by
      simp only [List.mem_cons, List.not_mem_nil, or_false] at hw
      rcases hw with rfl | rfl
      · exact ⟨.pop, Or.inl rfl, rfl⟩
      · exact ⟨.print, Or.inr rfl, rfl⟩
    refine fline (f5.back0 g6) rfl fun l2 S7 hl2 f7 => ⟨⟨.op o, l2⟩, rfl, f7, fun S8 new8 f8 => ?_⟩
    refine k _ S8 _ (⟨.c v, l⟩ :: rows5 ++ [⟨.op o, l2⟩]) hds5 (by simpa using f8) ?_ ?_
    · have b1 : Blk b (ps0.length + rows.length) b (b + 1) [⟨.c v, l⟩] [] := Blk.one ⟨⟨v0, v1⟩, hl⟩ (Nat.zero_le _) rfl rfl rfl (Nat.le_refl _)
      have b2 := b1.app ((bk5.floor (Nat.le_succ b)).app (blk_pop1 ho hl2 _ b))
      simpa using b2
    · refine lim _ ?_
      unfold clim
      simp
      omega
  · exact fsub F.g f1 rfl rfl rfl (sub1 _ _ rfl) rfl hm fun S2 new2 rows2 hds2 f2 bk lm hn => k _ S2 _ rows2 hds2 f2 bk (lim _ lm)
end
end Law

/-! G12: bodies of every depth. -/
namespace Pv
open PySem PySem.Spec PyProof.Rows L2
section
variable {Γ : Gam} {S : Sto} {P : RS → Prop} {t : SF} {as : AF} {i : Nat} {p : PV} {ps : List PV}
theorem W.forR1 (h : okR (as Γ S) fun vs S1 => ∃ m : Nat, vs = [.int (m : Nat)] ∧ m < 1000000 ∧ rsP (forL (sTurn (gN i) t) (intsF 0 m) Γ S1) P) : rsP (sFor (iR1 as) (gN i) t Γ S) P := by
  obtain ⟨vs, S1, e, m, e2, hm, q⟩ := h.eq
  subst e2
  rw [sFor_eq, iR1_eq, e, r1K_ok ⟨by omega, by omega⟩, forK_L]
  simpa using q
theorem W.forN {b : PV → SF} (h : rsP (.nx Γ S) P) : rsP (forL b [] Γ S) P := h
def forP (t : SF) (i : Nat) (ps : List PV) (P : RS → Prop) : RS → Prop
  | .nx Γ S => rsP (forL (sTurn (gN i) t) ps Γ S) P
  | .ct Γ S => rsP (forL (sTurn (gN i) t) ps Γ S) P
  | .bk Γ S => P (.nx Γ S)
  | r => P r
theorem W.forC (h : rsP (t (Γ.set i (some p)) S) (forP t i ps P)) : rsP (forL (sTurn (gN i) t) (p :: ps) Γ S) P := by
  unfold rsP at *
  have e : sTurn (gN i) t p Γ S = t (Γ.set i (some p)) S := rfl
  unfold forL
  rw [e]
  cases q : t (Γ.set i (some p)) S with
  | nx Γ1 S1 => rw [q] at h; exact h
  | ct Γ1 S1 => rw [q] at h; exact h
  | bk Γ1 S1 => rw [q] at h; exact h
  | rt v S1 => rw [q] at h; exact h
  | ex c fs Γ1 S1 => rw [q] at h; exact h
  | bad => rw [q] at h; exact h
theorem W.forG (h : rsP (forL (sTurn (gN i) t) ps Γ S) P) : rsP (.nx Γ S) (forP t i ps P) := h
end
end Pv
namespace Law
open PySem PySem.Spec PyProof.Rows L2 Pv
theorem body_ok {Fc Fl Fb Fg : List PV → Sto → R PV} {d : Nat} (hd : d ≤ 3) (H : ∀ e, d = e + 1 → Fams e Fc Fl Fb Fg) : FamOk (runW 5 7 (body_law_body Fc Fl Fb Fg)) d 1000 (blim d) := by
  intro ns n r h S ps hs b c dr hr hh hb hc hbd
  have f := FS.start c dr hr hh hb
  refine Pv.W.run rfl (Pv.W.forR1 (Pv.W.cons (fdraw f rfl fun j S1 hj f1 => Pv.W.nil ⟨j, rfl, by omega, ?_⟩)))
  have tc : tcap d + 9 = Bd d := by cases d <;> rfl
  have t1 : ∀ m, tlim d m ≤ blim d m := fun m => by unfold tlim blim; split <;> omega
  have t2 : ∀ m k, k ≤ tlim d m → tlim d k ≤ blim d m := fun m k hk => by
    unfold tlim at *
    unfold blim
    split at hk <;> split <;> omega
  have hbl : ∀ m, m ≤ 1000 → blim d m < 2000 := fun m hm => by have := Bd_le d hd; unfold blim; omega
  have h2 : j = 0 ∨ j = 1 ∨ j = 2 := by omega
  rcases h2 with rfl | rfl | rfl
  · exact Pv.W.forN ⟨_, _, _, f1, Blk.nil, by unfold blim; simp; omega⟩
  · refine Pv.W.forC (turn_ok hd H f1 (by simp; omega) fun z S2 new2 rows2 hds2 f2 bk2 lm2 => Pv.W.forG (Pv.W.forN ?_))
    simp only [List.nil_append, List.length_nil, Nat.add_zero] at f2 bk2 lm2
    exact ⟨_, _, _, f2, bk2, Nat.le_trans lm2 (t1 _)⟩
  · refine Pv.W.forC (turn_ok hd H f1 (by simp; omega) fun z S2 new2 rows2 hds2 f2 bk2 lm2 => Pv.W.forG ?_)
    simp only [List.nil_append, List.length_nil, Nat.add_zero] at f2 bk2 lm2
    refine Pv.W.forC (turn_ok hd H f2 (by have := t1 ps.length; have := hbl ps.length hc; omega) fun z S3 new3 rows3 hds3 f3 bk3 lm3 => Pv.W.forG (Pv.W.forN ?_))
    refine ⟨_, _, _, f3, bk2.app bk3, ?_⟩
    rw [List.length_append]
    have := t2 ps.length (ps.length + rows2.length) lm2
    omega
theorem bodies : ∀ (d : Nat), d ≤ 3 → ∀ fuel, 2 * d + 1 ≤ fuel → FamOk (f_law_body fuel) d 1000 (blim d)
  | 0, hd, fuel, hf => by
    obtain ⟨k, rfl⟩ : ∃ k, fuel = k + 1 := ⟨fuel - 1, by omega⟩
    rw [f_law_body_s]
    exact body_ok hd fun e he => by omega
  | d + 1, hd, fuel, hf => by
    obtain ⟨k, rfl⟩ : ∃ k, fuel = k + 1 + 1 := ⟨fuel - 2, by omega⟩
    rw [f_law_body_s]
    have ih := bodies d (by omega)
    have be := Bd_le d (by omega)
    refine body_ok hd fun e he => ?_
    obtain rfl : d = e := by omega
    refine ⟨?_, ?_, ih _ (by omega), ?_⟩
    · rw [f_law_choice_s]; exact choice_ok (ih _ (by omega)) be
    · rw [f_law_loop_s]; exact loop_ok (ih _ (by omega)) be
    · rw [f_law_guard_s]; exact guard_ok (ih _ (by omega)) be
end Law

/-! G13: all parts of a small program. -/
namespace Pv
open PySem PySem.Spec PyProof.Rows L2
theorem lcI_still {st : Stp} {gt : GF} {tt : BF} {te : EF} {Γ : Gam} {S : Sto} {ps vs : List PV} (hs : ∀ i : Nat, st S i = some ps[i]?) (hl : vs.length = ps.length) (hz : ps.length ≤ sizeLine)
    (h : ∀ (i : Nat) (p : PV), ps[i]? = some p → ∃ Γ1 v, vs[i]? = some v ∧ gt p Γ S = .ok Γ1 S ∧ tt Γ1 S = .ok true S ∧ te Γ1 S = .ok v S) : ∀ k i, i + k = ps.length → lcI st gt tt te Γ (k + 1) i (vs.take i) S = .ok vs S
  | 0, i, e => by
    unfold lcI
    rw [hs, List.getElem?_eq_none (by omega)]
    show R.ok (vs.take i) S = _
    rw [List.take_of_length_le (by omega)]
  | k + 1, i, e => by
    have hi : i < ps.length := by omega
    obtain ⟨Γ1, v, h1, h2, h3, h4⟩ := h i ps[i] (List.getElem?_eq_getElem hi)
    have hlen : (vs.take i).length < sizeLine := by rw [List.length_take]; omega
    have ih := lcI_still hs hl hz h k (i + 1) (by omega)
    unfold lcI
    rw [hs, List.getElem?_eq_getElem hi]
    simp only [h2, h3, h4]
    rw [if_pos hlen]
    have e2 : vs.take i ++ [v] = vs.take (i + 1) := by
      rw [List.take_succ, h1]
      rfl
    rw [e2]
    exact ih
section
variable {Γ : Gam} {S : Sto} {te : EF} {i j r : Nat} {ps vs : List PV} {Q : PV → Sto → Prop}
theorem W.lcR (hj : Γ[j]? = some (some (.ref r))) (hr : S[r]? = some (some (.lst, ps))) (hl : vs.length = ps.length) (hz : ps.length ≤ sizeLine)
    (h : ∀ (k : Nat) (p : PV), ps[k]? = some p → ∃ v, vs[k]? = some v ∧ te ((Γ.set i none).set i (some p)) S = .ok v S) (q : Q (.ref S.length) (S ++ [some (.lst, vs)])) : okR (eLc true (iAny (eV j)) (gN i) bYes te [i] Γ S) Q := by
  have e0 : iAny (eV j) Γ S = .ok (stR r, ps.length + 1) S := by
    have : eV j Γ S = .ok (.ref r) S := by unfold eV; rw [hj]
    unfold iAny
    rw [this]
    show (match walkB S (.ref r) with | some q => R.ok q S | none => .bad) = _
    unfold walkB
    simp only [hr, Option.join_some]
  have e1 : lcI (stR r) (gN i) bYes te (wipeG Γ [i]) (ps.length + 1) 0 [] S = .ok vs S := by
    have := lcI_still (st := stR r) (gt := gN i) (tt := bYes) (te := te) (Γ := wipeG Γ [i]) (S := S) (ps := ps) (vs := vs) (fun k => by unfold stR; simp only [hr, Option.join_some]) hl hz (fun k p hp => by
      obtain ⟨v, h1, h2⟩ := h k p hp
      exact ⟨_, v, h1, rfl, rfl, h2⟩) ps.length 0 (by omega)
    simpa using this
  unfold eLc
  rw [e0]
  show okR ((lcI (stR r) (gN i) bYes te (wipeG Γ [i]) (ps.length + 1) 0 [] S).bind _) Q
  rw [e1]
  exact q
end
end Pv
namespace Law
open PySem PySem.Spec PyProof.Rows L2 Pv
/-- a whole program: depths from 0 on agree, targets are places, the last row does not go on -/
structure Prog (rows : List Rw) (hds : List Hnd) : Prop where
  len : rows.length ≤ 199
  pos : 0 < rows.length
  dep : ∃ D : Nat → Nat, D 0 = 0 ∧ Sg 0 (rows.length - 1) 0 rows hds D
  last : ∃ r, rows[rows.length - 1]? = some r ∧ r.i.last = true
theorem HndOk.rel {lo hi lo' hi' : Nat} {D D' : Nat → Nat} {x : Hnd} (h : HndOk lo hi D x) (h1 : lo' ≤ lo) (h2 : hi ≤ hi') (e : ∀ i, lo ≤ i → i ≤ hi → D' i = D i) : HndOk lo' hi' D' x := h.mono h1 h2 e
theorem Prog.one {rows : List Rw} {hds : List Hnd} {l : Nat} (B : Blk 0 0 0 0 rows hds) (hl : l ≤ 1000000) (hn : rows.length ≤ 195) : Prog (rows ++ [⟨.op .stop, l⟩]) hds := by
  obtain ⟨D, s, d1, d2, d3⟩ := B
  have le : (rows ++ [(⟨.op .stop, l⟩ : Rw)]).length = rows.length + 1 := by simp
  refine ⟨by omega, by omega, ⟨D, d1, ?_⟩, ⟨⟨.op .stop, l⟩, by rw [le]; simp, rfl⟩⟩
  rw [le]
  have k : Sg 0 rows.length 0 (rows ++ [⟨.op .stop, l⟩]) (hds ++ []) D := (Sg.of s (Nat.le_refl _) (by omega) fun _ _ _ => rfl).app (Sg.one ⟨⟨trivial, hl⟩, Nat.zero_le _, fun z => (by cases z), fun t z => (by cases z)⟩)
  simpa using k
def deadR : List Rw := [⟨.c 5, 2⟩, ⟨.op .print, 3⟩, ⟨.jp 0, 0⟩]
theorem Prog.dead {rows : List Rw} {hds : List Hnd} {l : Nat} (B : Blk 0 0 0 0 rows hds) (hl : l ≤ 1000000) (hn : rows.length ≤ 195) : Prog (rows ++ [⟨.op .stop, l⟩] ++ deadR) hds := by
  obtain ⟨D, s, d1, d2, d3⟩ := B
  have le : (rows ++ [(⟨.op .stop, l⟩ : Rw)] ++ deadR).length = rows.length + 4 := by simp [deadR]
  let E : Nat → Nat := fun i => if i ≤ rows.length then D i else if i = rows.length + 2 then 1 else 0
  have e1 : ∀ i, i ≤ rows.length → E i = D i := fun i h => if_pos h
  have e2 : E (rows.length + 1) = 0 := by show (if _ then _ else _) = _; rw [if_neg (by omega), if_neg (by omega)]
  have e3 : E (rows.length + 2) = 1 := by show (if _ then _ else _) = _; rw [if_neg (by omega), if_pos rfl]
  have e4 : E (rows.length + 3) = 0 := by show (if _ then _ else _) = _; rw [if_neg (by omega), if_neg (by omega)]
  have e0 : E 0 = 0 := (e1 0 (by omega)).trans d1
  refine ⟨by omega, by omega, ⟨E, e0, ?_⟩, ⟨⟨.jp 0, 0⟩, ?_, rfl⟩⟩
  · rw [le]
    have k : Sg 0 (rows.length + 3) 0 (rows ++ ⟨.op .stop, l⟩ :: deadR) (hds ++ []) E := by
      refine (Sg.of s (Nat.le_refl _) (by omega) fun i _ h => e1 i (by omega)).app ?_
      rw [Nat.zero_add]
      refine Sg.cons (r := ⟨.op .stop, l⟩) ⟨⟨trivial, hl⟩, Nat.zero_le _, fun z => (by cases z), fun t z => (by cases z)⟩ ?_
      refine Sg.cons (r := ⟨.c 5, 2⟩) ⟨⟨⟨by decide, by decide⟩, by decide⟩, Nat.zero_le _, fun _ => ?_, fun t z => (by cases z)⟩ ?_
      · rw [e3, e2]; rfl
      refine Sg.cons (r := ⟨.op .print, 3⟩) ⟨⟨trivial, by decide⟩, ?_, fun _ => ?_, fun t z => (by cases z)⟩ ?_
      · rw [e3]; exact Nat.le_refl _
      · rw [e4, e3]; rfl
      refine Sg.cons (r := ⟨.jp 0, 0⟩) ⟨⟨trivial, by decide⟩, Nat.zero_le _, fun z => (by cases z), fun t z => ?_⟩ ⟨fun i r q => by simp at q, fun x q => by simp at q⟩
      cases z
      exact ⟨Nat.le_refl _, Nat.zero_le _, by rw [e0, e4]; rfl⟩
    simpa using k
  · rw [le]
    rw [List.getElem?_append_right (by simp)]
    simp [deadR]
end Law

/-! G14: law_parts. -/
namespace Law
open PySem PySem.Spec PyProof.Rows L2 Pv
section
variable {ns : List Int} {n r h : Nat} {S0 S S' : Sto} {ps0 hs0 new : List PV} {rows : List Rw} {hds : List Hnd} {Γ : Gam} {i : Nat} {Q : PV → Sto → Prop} {P : RS → Prop} {t u : SF} {as : AF}
theorem fif (f : FS ns n r h S0 ps0 hs0 S new rows hds) {m y : Int} (hi : Γ[i]? = some (some (.ref n))) (h1 : ∀ S', FS ns n r h S0 ps0 hs0 S' new rows hds → rsP (t Γ S') P) (h2 : ∀ S', FS ns n r h S0 ps0 hs0 S' new rows hds → rsP (u Γ S') P) (hm : 0 < m := by decide) (hm2 : m < 1073741824 := by decide) :
    rsP (sIf (bE (eOp eqF (eCallW f_law_draw (aCons (eV i) (aCons (eC (.int m)) aNil))) (eC (.int y)))) t u Γ S) P := gif f.gs hi (fun S' g => h1 S' (f.back0 g)) (fun S' g => h2 S' (f.back0 g)) hm hm2
/-- the parts of a row are read -/
theorem RWs.read {lo : Nat} {ps : List PV} (w : RWs lo S ps rows) (k : Nat) (f : Rw → PV) (hk : (k = 0 ∧ f = fun r => r.i.pv) ∨ (k = 1 ∧ f = fun r => .int r.l)) (j : Nat) (p : PV) (hp : ps[j]? = some p) : ∃ v, (rows.map f)[j]? = some v ∧ ixB S p (.int (k : Nat)) = some v := by
  have hj := (List.getElem?_eq_some_iff.mp hp).1
  obtain ⟨x, hx⟩ : ∃ x, rows[j]? = some x := ⟨rows[j]'(by rw [← w.len]; exact hj), List.getElem?_eq_getElem _⟩
  refine ⟨f x, by rw [List.getElem?_map, hx]; rfl, ?_⟩
  rcases w.at_ j p x hp hx with rfl | ⟨c, rfl, _, q⟩
  · rcases hk with ⟨rfl, rfl⟩ | ⟨rfl, rfl⟩ <;> rfl
  · rw [ixB_ref q]
    rcases hk with ⟨rfl, rfl⟩ | ⟨rfl, rfl⟩ <;> rfl
structure Parts (ns : List Int) (n : Nat) (S0 : Sto) (v : PV) (S' : Sto) : Prop where
  ex : ∃ (rows : List Rw) (hds : List Hnd) (c l h z : Nat), v = .ref z ∧ S'[z]? = some (some (.lst, [.ref c, .ref l, .ref h])) ∧ S'[c]? = some (some (.lst, rows.map fun r => r.i.pv)) ∧ S'[l]? = some (some (.lst, rows.map fun r => .int r.l)) ∧ S'[h]? = some (some (.lst, hds.map Hnd.pv)) ∧
    DR n ns S' ∧ Prog rows hds ∧ n < h ∧ h < c ∧ c < l ∧ l < z ∧ z < S'.length ∧ hds.length ≤ rows.length ∧ (∀ x ∈ hds, x.d ≤ 200) ∧ S0.length ≤ h ∧ ∀ i, i < S0.length → i ≠ n → S'[i]? = S0[i]?
theorem parts_end {x : Option PV} {n r h : Nat} (f : FS ns n r h S0 [] [] S new rows hds) (pr : Prog rows hds) (hn : n < r) (hr : r < h) {S00 : Sto} (hz0 : S00.length = r) (h00 : ∀ i, i < r → S0[i]? = S00[i]?) :
    rsP (r2_law_parts [some (.ref n), some (.ref r), some (.ref h), x, none, none, none] S) fun res => match res with
      | .nx _ S' => Parts ns n S00 .non S'
      | .rt v S' => Parts ns n S00 v S'
      | _ => False := by
  have z : sizeLine = 16777216 := sizeLine_eq
  have hl := f.rws.len
  have pl := pr.len
  have f0 := f.rw_
  simp only [List.nil_append] at f0
  have hlt : h < S.length := (List.getElem?_eq_some_iff.mp f.hh).1
  refine Pv.W.seq (Pv.W.set (Pv.W.lcR (vs := rows.map fun r => r.i.pv) rfl f0 (by rw [List.length_map, hl]) (by omega) (fun j p hp => ?_) (Pv.W.go ?_)))
  · obtain ⟨v, h1, h2⟩ := f.rws.read 0 (fun r => r.i.pv) (Or.inl ⟨rfl, rfl⟩) j p hp
    refine ⟨v, h1, ?_⟩
    show R.of ((ixB S p (.int (0 : Nat))).map _) = _
    rw [h2]
    rfl
  have k1 : RWs S0.length (S ++ [some (Kd.lst, rows.map fun r => r.i.pv)]) new rows := f.rws.keep fun c _ hc => List.getElem?_append_left hc
  refine Pv.W.seq (Pv.W.set (Pv.W.lcR (r := r) (ps := new) (vs := rows.map fun r => .int r.l) rfl (by rw [List.getElem?_append_left (by omega)]; exact f0) (by rw [List.length_map, hl]) (by omega) (fun j p hp => ?_) (Pv.W.go ?_)))
  · obtain ⟨v, h1, h2⟩ := k1.read 1 (fun r => .int r.l) (Or.inr ⟨rfl, rfl⟩) j p hp
    refine ⟨v, h1, ?_⟩
    show R.of ((ixB _ p (.int (1 : Nat))).map _) = _
    rw [h2]
    rfl
  refine Pv.W.ret (Pv.W.lstT (Pv.W.cons (Pv.W.var rfl (Pv.W.cons (Pv.W.var rfl (Pv.W.cons (Pv.W.var rfl (Pv.W.nil ⟨by simp; omega, ?_⟩))))))))
  obtain ⟨a, b, s, e, h0⟩ := f.dr
  have ln : n < S.length := by omega
  refine ⟨rows, hds, S.length, S.length + 1, h, S.length + 2, by simp, ?_, ?_, ?_, ?_, ⟨a, b, s, ?_, h0⟩, pr, by omega, by omega, by omega, by omega, by simp, f.hl, f.hB, by omega, fun i hi hin => ?_⟩
  · simp [List.getElem?_append]
  · simp [List.getElem?_append]
  · simp [List.getElem?_append]
  · rw [List.getElem?_append_left (by simp; omega), List.getElem?_append_left (by simp; omega), List.getElem?_append_left (by omega)]
    simpa using f.hh
  · rw [List.getElem?_append_left (by simp; omega), List.getElem?_append_left (by simp; omega), List.getElem?_append_left (by omega)]
    exact e
  · have l0 := f.c.r0
    rw [List.getElem?_append_left (by simp; omega), List.getElem?_append_left (by simp; omega), List.getElem?_append_left (by omega)]
    rw [f.fr i (by omega) hin (by omega) (by omega)]
    exact h00 i (by omega)
theorem bodies_loop {n r h : Nat} : ∀ (qs : List PV) (S : Sto) (new : List PV) (rows : List Rw) (hds : List Hnd) (x : Option PV), qs.length ≤ 3 → FS ns n r h S0 [] [] S new rows hds → Blk 0 0 0 0 rows hds → rows.length ≤ 195 - 18 * qs.length →
    (∀ x S' new rows hds, FS ns n r h S0 [] [] S' new rows hds → Blk 0 0 0 0 rows hds → rows.length ≤ 195 → rsP (.nx [some (.ref n), some (.ref r), some (.ref h), x, none, none, none] S') P) →
    rsP (forL (sTurn (gN 3) l0_law_parts) qs [some (.ref n), some (.ref r), some (.ref h), x, none, none, none] S) P
  | [], S, new, rows, hds, x, _, f, bk, hl, k => Pv.W.forN (k x S new rows hds f bk (by simpa using hl))
  | q :: qs, S, new, rows, hds, x, hq, f, bk, hl, k => by
    simp only [List.length_cons] at hq hl
    refine Pv.W.forC ?_
    refine fsub (b := 0) (bodies 3 (Nat.le_refl _) 10 (by decide)) f rfl rfl rfl rfl rfl (by simp; omega) fun S' new' rows' hds' f' bk' lm hn => Pv.W.forG ?_
    simp only [List.length_nil, Nat.zero_add] at bk' lm
    have lm : rows.length + rows'.length ≤ max 159 (rows.length + 18) := lm
    refine bodies_loop qs S' _ _ _ _ (by omega) f' (Blk.app bk (by rw [Nat.zero_add]; exact bk')) ?_ k
    rw [List.length_append]
    omega
theorem parts_ok {n : Nat} (d : DR n ns S) (hn : n < S.length) : okR (f_law_parts [.ref n] S) (Parts ns n S) := by
  have z : sizeLine = 16777216 := sizeLine_eq
  unfold f_law_parts
  refine Pv.W.run rfl (Pv.W.seq (Pv.W.set (Pv.W.lstT (Pv.W.nil ⟨Nat.zero_le _, Pv.W.go ?_⟩))))
  refine Pv.W.seq (Pv.W.set (Pv.W.lstT (Pv.W.nil ⟨Nat.zero_le _, Pv.W.go ?_⟩)))
  obtain ⟨a, b, s, e, h0⟩ := d
  have f : FS ns n S.length (S.length + 1) (S ++ [some (.lst, [])] ++ [some (.lst, [])]) [] [] (S ++ [some (.lst, [])] ++ [some (.lst, [])]) [] [] [] := by
    refine FS.start ⟨by omega, by omega, by omega, by simp; omega, by simp, by simp⟩ ⟨a, b, s, ?_, h0⟩ ?_ ?_ (Nat.le_refl _)
    · rw [List.getElem?_append_left (by simp; omega), List.getElem?_append_left hn]; exact e
    · simp [List.getElem?_append]
    · simp [List.getElem?_append]
  have e2 : (S ++ [some (Kd.lst, ([] : List PV))]).length = S.length + 1 := by simp
  have h00 : ∀ i, i < S.length → (S ++ [some (Kd.lst, ([] : List PV))] ++ [some (Kd.lst, ([] : List PV))])[i]? = S[i]? := fun i hi => by
    rw [List.getElem?_append_left (by simp; omega), List.getElem?_append_left hi]
  refine Pv.W.seq (Pv.W.forR1 (Pv.W.cons (Pv.W.op (Pv.W.con (fdraw f rfl fun j S1 hj f1 => ⟨.int (1 + j : Nat), S1, ?_, Pv.W.nil ⟨1 + j, rfl, by omega, ?_⟩⟩)))))
  · show some (PV.int _, S1) = some (PV.int _, S1)
    congr 3
  rw [e2]
  refine bodies_loop _ S1 [] [] [] _ (by rw [intsF_len]; omega) f1 Blk.nil (by simp) fun x S2 new2 rows2 hds2 f2 bk2 lm2 => Pv.W.go ?_
  have lm2' : ([] : List PV).length + rows2.length < 1000 := by simp; omega
  refine Pv.W.seq (frow f2 rfl (by omega) (growW (gtup1 (Pv.W.con (fline f2 rfl fun l S3 hl f3 => ⟨⟨.op .stop, l⟩, rfl, f3, fun S4 new4 f4 => Pv.W.go ?_⟩)))))
  have l4 : (rows2 ++ [(⟨.op .stop, l⟩ : Rw)]).length = rows2.length + 1 := by simp
  refine Pv.W.seq (fif f4 rfl (fun S5 f5 => ?_) fun S5 f5 => Pv.W.next (Pv.W.go (parts_end f5 (Prog.one bk2 hl lm2) hn (by omega) rfl h00)))
  refine Pv.W.seq (frow f5 rfl (by simp; omega) (growW (gtup2 (Pv.W.con (Pv.W.con (Pv.W.con ⟨⟨.c 5, 2⟩, rfl, f5, fun S6 new6 f6 => Pv.W.go ?_⟩))))))
  refine Pv.W.seq (frow f6 rfl (by simp; omega) (growW (gtup1 (Pv.W.con (Pv.W.con ⟨⟨.op .print, 3⟩, rfl, f6, fun S7 new7 f7 => Pv.W.go ?_⟩)))))
  refine frow f7 rfl (by simp; omega) (growW (gtup2 (Pv.W.con (Pv.W.con (Pv.W.con ⟨⟨.jp 0, 0⟩, rfl, f7, fun S8 new8 f8 => Pv.W.go ?_⟩)))))
  exact parts_end (rows := rows2 ++ [⟨.op .stop, l⟩] ++ deadR) (by simpa [deadR] using f8) (Prog.dead bk2 hl lm2) hn (by omega) rfl h00
end
end Law

/-! G15: what the checks say of good instructions. -/
namespace Pv
open PySem PySem.Spec PyProof.Rows L2
section
variable {Γ : Gam} {S : Sto} {as : AF} {Q : PV → Sto → Prop}
/-- a def that only reads -/
theorem W.rdP {np n : Nat} {body : SF} {args : List PV} {v : PV} (hl : args.length = np) (h : rsP (body (args.map some ++ List.replicate (n - args.length) none) []) fun r => ∃ u S, r = .rt u S ∧ resP S u = .ok v) : runP np n body args = .ok v := by
  obtain ⟨u, S, e, q⟩ := h
  unfold runP
  rw [if_pos hl, e]
  exact q
theorem W.clP {f : List PV → RP} (h : okR (as Γ S) fun vs S1 => ∃ qs v, vs.mapM (lendV S1) = some qs ∧ f qs = .ok v ∧ Q v S1) : okR (eCallP f as Γ S) Q := by
  obtain ⟨vs, S1, e, qs, v, e2, e3, q⟩ := h.eq
  unfold eCallP
  rw [e]
  show okR (match vs.mapM (lendV S1) with
    | some qs => match f qs with
      | .ok v => R.ok v S1
      | .ex c fs => .ex c fs S1
      | .bad => .bad
    | none => .bad) Q
  rw [e2]
  show okR (match f qs with
      | .ok v => R.ok v S1
      | .ex c fs => .ex c fs S1
      | .bad => .bad) Q
  rw [e3]
  exact q
theorem W.iteF {s : BF} {t u : SF} {P : RS → Prop} {S1 : Sto} (e : s Γ S = .ok false S1) (h : rsP (u Γ S1) P) : rsP (sIf s t u Γ S) P := W.ite (okR.of e ⟨fun h => (by cases h), fun _ => h⟩)
theorem W.iteT {s : BF} {t u : SF} {P : RS → Prop} {S1 : Sto} (e : s Γ S = .ok true S1) (h : rsP (t Γ S1) P) : rsP (sIf s t u Γ S) P := W.ite (okR.of e ⟨fun _ => h, fun h => (by cases h)⟩)
end
end Pv
namespace Law
open PySem PySem.Spec PyProof.Rows L2 Pv
theorem in_range_ok {n a b : Int} (h0 : a ≤ n) (h1 : n ≤ b) : f_in_range [.int n, .int a, .int b] = .ok (.bl true) := by
  unfold f_in_range
  rw [runP_eq (np := 3) rfl]
  simp [body_in_range, szl, h0, h1, resP, frzV, clean]
theorem fits_c {n : Int} (h0 : -1000000000000000000000000000000 ≤ n) (h1 : n ≤ 1000000000000000000000000000000) : f_fits_form [.con .own .tup [.str "const", .int n]] = .ok (.bl true) :=
  Pv.W.rdP rfl (Pv.W.seq (Pv.W.iteF (S1 := []) rfl (Pv.W.next (Pv.W.go (Pv.W.seq (Pv.W.iteF (S1 := []) rfl (Pv.W.next (Pv.W.go (Pv.W.seq (Pv.W.iteT (S1 := []) rfl (Pv.W.ret (Pv.W.clP (okR.of (v := [.int n, .int (-1000000000000000000000000000000), .int 1000000000000000000000000000000]) (S := []) rfl ⟨_, _, rfl, in_range_ok h0 h1, _, _, rfl, rfl⟩)))))))))))))
theorem fits_j {s : Str} {t : Nat} (hs : s = "jump" ∨ s = "jumpif") : f_fits_form [.con .own .tup [.str s, .int (t : Nat)]] = .ok (.bl true) := by
  have e : f_fits_form [.con .own .tup [.str s, .int (t : Nat)]] = .ok (.bl (decide ((t : Int) ≥ 0))) := by
    rcases hs with rfl | rfl <;> rfl
  rw [e, decide_eq_true (by omega)]
theorem letters_all : c_LETTERS.cps.toList = List.range' 97 26 := by decide +kernel
theorem word_loop : ∀ (cs : List Nat) (v x : Option PV), (∀ c ∈ cs, 97 ≤ c ∧ c ≤ 122) → rsP (forL (sTurn (gN 1) l0_is_word) (cs.map fun c => PV.str ⟨#[c]⟩) [v, x] []) (thenS r1_is_word fun r => ∃ u S, r = .rt u S ∧ resP S u = .ok (.bl true))
  | [], v, x, _ => Pv.W.forN (Pv.W.go (Pv.W.ret (Pv.W.con ⟨_, _, rfl, rfl⟩)))
  | c :: cs, v, x, h => by
    refine Pv.W.forC (Pv.W.iteF (S1 := []) ?_ (Pv.W.next (Pv.W.forG (word_loop cs v _ fun c hc => h c (List.mem_cons_of_mem _ hc)))))
    show R.ok (!decide (c ∈ c_LETTERS.cps.toList)) ([] : Sto) = _
    have := h c List.mem_cons_self
    rw [decide_eq_true (by rw [letters_all, List.mem_range'_1]; omega)]
    rfl
theorem is_word_ok {w : Str} (h : WdOk w) : f_is_word [.str w] = .ok (.bl true) := by
  obtain ⟨h1, h2, h3⟩ := h
  have hl : w.length = w.cps.toList.length := (Array.length_toList (xs := w.cps)).symm
  have hz : w.length ≤ sizeLine := by have : sizeLine = 16777216 := sizeLine_eq; omega
  have hn : lenF [.str w] [] = some (.int (w.length : Nat), []) := if_pos hz
  have hch : eChain leF leF (eC (.int 1)) (eCall lenF (aCons (eV 0) aNil)) (eC (.int 8)) [some (.str w), none] [] = .ok (.bl true) [] := by
    show ((R.of (lenF [.str w] [])).bind fun y S2 => (R.of (leF (.int 1) y S2)).bind fun z S3 => match z with
      | .bl true => ((eC (.int 8) : EF) [some (.str w), none] S3).bind fun w S4 => R.of (leF y w S4)
      | .bl false => .ok (.bl false) S3
      | _ => .bad) = _
    rw [hn]
    show (match PV.bl (decide ((1 : Int) ≤ (w.length : Nat))) with
      | .bl true => R.of (leF (.int (w.length : Nat)) (.int 8) ([] : Sto))
      | .bl false => .ok (.bl false) []
      | _ => .bad) = _
    rw [decide_eq_true (by omega)]
    show R.of (some (PV.bl (decide (((w.length : Nat) : Int) ≤ 8)), ([] : Sto))) = _
    rw [decide_eq_true (by omega)]
    rfl
  refine Pv.W.rdP rfl (Pv.W.seq (Pv.W.ite (Pv.W.or (Pv.W.not (okR.of (v := true) (S := []) rfl ⟨fun h => (by cases h), fun _ => Pv.W.not (Pv.W.bE (okR.of hch ⟨true, rfl, fun h => (by cases h), fun _ => Pv.W.next (Pv.W.go (Pv.W.seq ?_))⟩))⟩)))))
  show rsP (forK (gN 1) l0_is_word [some (.str w), none] (anyK (.ok (.str w) []))) _
  rw [anyK_str, forK_L]
  exact word_loop w.cps.toList (some (.str w)) none h3
theorem fits_w {s w : Str} (hs : s = "load" ∨ s = "store" ∨ s = "fail") (h : WdOk w) : f_fits_form [.con .own .tup [.str s, .str w]] = .ok (.bl true) := by
  have hw := is_word_ok h
  rcases hs with rfl | rfl | rfl <;>
  exact Pv.W.rdP rfl (Pv.W.seq (Pv.W.iteF (S1 := []) rfl (Pv.W.next (Pv.W.go (Pv.W.seq (Pv.W.iteF (S1 := []) rfl (Pv.W.next (Pv.W.go (Pv.W.seq (Pv.W.iteF (S1 := []) rfl (Pv.W.next (Pv.W.go (Pv.W.seq (Pv.W.iteT (S1 := []) rfl (Pv.W.ret (Pv.W.clP (okR.of (v := [.str w]) (S := []) rfl ⟨_, _, rfl, hw, _, _, rfl, rfl⟩)))))))))))))))))
theorem fits_ok (i : Itr) (g : i.good) : f_fits_form [i.pv] = .ok (.bl true) := by
  cases i with
  | c n => exact fits_c g.1 g.2
  | ld w => exact fits_w (Or.inl rfl) g
  | sto w => exact fits_w (Or.inr (Or.inl rfl)) g
  | op o => cases o <;> rfl
  | fl w => exact fits_w (Or.inr (Or.inr rfl)) g
  | jp t => exact fits_j (Or.inl rfl)
  | ji t => exact fits_j (Or.inr rfl)
end Law

/-! G16: which handler receives. -/
namespace Pv
open PySem PySem.Spec PyProof.Rows L2
section
variable {Γ : Gam} {S : Sto} {P : RS → Prop} {t : SF} {a b c : EF} {i : Nat} {ps : List PV} {m : Md} {x y z : Int} {B : Bool → Sto → Prop}
theorem W.forT (h : okR (a Γ S) fun v S1 => ∃ m ps, v = .con m .tup ps ∧ rsP (forL (sTurn (gN i) t) ps Γ S1) P) : rsP (sFor (iAny a) (gN i) t Γ S) P := by
  obtain ⟨v, S1, e, m, ps, e2, q⟩ := h.eq
  subst e2
  rw [sFor_eq, iAny_eq, e, anyK_tup, forK_L]
  exact q
theorem W.chLeLt (ea : a Γ S = .ok (.int x) S) (eb : b Γ S = .ok (.int y) S) (ec : c Γ S = .ok (.int z) S) (h : B (decide (x ≤ y ∧ y < z)) S) : okR (Pv.bE (eChain leF ltF a b c) Γ S) B := by
  have e : eChain leF ltF a b c Γ S = .ok (.bl (decide (x ≤ y ∧ y < z))) S := by
    by_cases h1 : x ≤ y
    · by_cases h2 : y < z <;> simp [ea, eb, ec, h1, h2]
    · simp [ea, eb, h1]
  exact W.bE (okR.of e ⟨_, rfl, h⟩)
end
end Pv
namespace Law
open PySem PySem.Spec PyProof.Rows L2 Pv
def rcv (i : Nat) (k : Str) (h : Hnd) : Bool := decide (h.s ≤ i ∧ i < h.e) && (decide (h.k = none) || decide (h.k = some k))
def recvP (hds : List Hnd) (i : Nat) (k : Str) : PV := match hds.find? (rcv i k) with
  | some h => h.pv
  | none => .non
theorem clean_hnd (h : Hnd) : clean h.pv = true := by
  obtain ⟨s, e, t, d, k⟩ := h
  cases k <;> rfl
theorem recv_loop {cs : PV} {i : Nat} {k : Str} : ∀ (hds : List Hnd) (x : Option PV), rsP (forL (sTurn (gN 3) l0_receiver) (hds.map Hnd.pv) [some cs, some (.int (i : Nat)), some (.str k), x] []) (thenS r1_receiver fun r => ∃ u S, r = .rt u S ∧ resP S u = .ok (recvP hds i k))
  | [], x => Pv.W.forN ⟨.non, [], rfl, rfl⟩
  | h :: hds, x => by
    refine Pv.W.forC ?_
    have skip : rcv i k h = false → rsP (.nx [some cs, some (.int (i : Nat)), some (.str k), some h.pv] []) (forP l0_receiver 3 (hds.map Hnd.pv) (thenS r1_receiver fun r => ∃ u S, r = .rt u S ∧ resP S u = .ok (recvP (h :: hds) i k))) := fun z => by
      have e : recvP (h :: hds) i k = recvP hds i k := by unfold recvP; rw [List.find?_cons, z]
      rw [e]
      exact Pv.W.forG (recv_loop hds (some h.pv))
    have take : rcv i k h = true → rsP (.rt h.pv []) (forP l0_receiver 3 (hds.map Hnd.pv) (thenS r1_receiver fun r => ∃ u S, r = .rt u S ∧ resP S u = .ok (recvP (h :: hds) i k))) := fun z => by
      have e : recvP (h :: hds) i k = h.pv := by unfold recvP; rw [List.find?_cons, z]
      rw [e]
      exact ⟨h.pv, [], rfl, resP_clean (clean_hnd h)⟩
    refine Pv.W.ite (Pv.W.and (Pv.W.chLeLt (x := h.s) (y := i) (z := h.e) rfl rfl rfl ⟨fun h1 => ?_, fun h1 => ⟨fun z => (by cases z), fun _ => Pv.W.next (skip ?_)⟩⟩))
    · have h1 : h.s ≤ i ∧ i < h.e := by have := of_decide_eq_true h1; omega
      cases hk : h.k with
      | none =>
        have ev : eOp ixF (eV 3) (eC (.int 4)) [some cs, some (.int (i : Nat)), some (.str k), some h.pv] [] = .ok .non [] := by
          show R.ok (okP h.k) [] = _
          rw [hk]; rfl
        refine okR.of (v := true) (S := []) ?_ ⟨fun _ => Pv.W.ret (Pv.W.var rfl (take ?_)), fun z => (by cases z)⟩
        · unfold bOr
          have : bE (eU (fun p => .bl (isNP p)) (eOp ixF (eV 3) (eC (.int 4)))) [some cs, some (.int (i : Nat)), some (.str k), some h.pv] [] = .ok true [] := by
            rw [bE_eq, eU_eq, ev]; rfl
          show ((bE (eU (fun p => .bl (isNP p)) (eOp ixF (eV 3) (eC (.int 4)))) [some cs, some (.int (i : Nat)), some (.str k), some h.pv] []).bind _) = _
          rw [this]; rfl
        · unfold rcv; simp [h1, hk]
      | some w =>
        have ev : eOp ixF (eV 3) (eC (.int 4)) [some cs, some (.int (i : Nat)), some (.str k), some h.pv] [] = .ok (.str w) [] := by
          show R.ok (okP h.k) [] = _
          rw [hk]; rfl
        have e1 : bE (eU (fun p => .bl (isNP p)) (eOp ixF (eV 3) (eC (.int 4)))) [some cs, some (.int (i : Nat)), some (.str k), some h.pv] [] = .ok false [] := by
          rw [bE_eq, eU_eq, ev]; rfl
        have e2 : bE (eOp eqF (eOp ixF (eV 3) (eC (.int 4))) (eV 2)) [some cs, some (.int (i : Nat)), some (.str k), some h.pv] [] = .ok (decide (w = k)) [] := by
          have e3 : eOp eqF (eOp ixF (eV 3) (eC (.int 4))) (eV 2) [some cs, some (.int (i : Nat)), some (.str k), some h.pv] [] = .ok (.bl (decide (w = k))) [] := by
            show (eOp ixF (eV 3) (eC (.int 4)) [some cs, some (.int (i : Nat)), some (.str k), some h.pv] []).bind _ = _
            rw [ev]
            show R.of (eqF (.str w) (.str k) []) = _
            simp
          rw [bE_eq, e3]; rfl
        refine okR.of (v := decide (w = k)) (S := []) ?_ ⟨fun z => Pv.W.ret (Pv.W.var rfl (take ?_)), fun z => Pv.W.next (skip ?_)⟩
        · show ((bE (eU (fun p => .bl (isNP p)) (eOp ixF (eV 3) (eC (.int 4)))) [some cs, some (.int (i : Nat)), some (.str k), some h.pv] []).bind _) = _
          rw [e1]
          exact e2
        · have := of_decide_eq_true z
          unfold rcv; simp [h1, hk, this]
        · have := of_decide_eq_false z
          unfold rcv; simp [h1, hk, this]
    · have : ¬ (h.s ≤ i ∧ i < h.e) := by have := of_decide_eq_false h1; omega
      unfold rcv; simp [this]
theorem receiver_ok (hds : List Hnd) (i : Nat) (k : Str) {m : Md} : f_receiver [.con m .tup (hds.map Hnd.pv), .int (i : Nat), .str k] = .ok (recvP hds i k) :=
  Pv.W.rdP rfl (Pv.W.seq (Pv.W.forT (Pv.W.var rfl ⟨m, _, rfl, recv_loop hds none⟩)))
end Law

/-! G17: where a row leads. -/
namespace Law
open PySem PySem.Spec PyProof.Rows L2 Pv
def kindO : Itr → Option Str
  | .ld _ => some "unbound"
  | .fl w => some w
  | .op o => match o with
    | .div => some "zero"
    | _ => none
  | _ => none
theorem kind_ok (i : Itr) : f_raised_kind [i.pv] = .ok (okP (kindO i)) := by
  cases i with
  | op o => cases o <;> rfl
  | _ => rfl
def nm : Itr → Str
  | .c _ => "const" | .ld _ => "load" | .sto _ => "store" | .op o => o.name | .fl _ => "fail" | .jp _ => "jump" | .ji _ => "jumpif"
theorem last_t : decide ((("const" : Str)) ∈ c_LAST) = false ∧ decide ((("load" : Str)) ∈ c_LAST) = false ∧ decide ((("store" : Str)) ∈ c_LAST) = false ∧ decide ((("fail" : Str)) ∈ c_LAST) = true ∧ decide ((("jump" : Str)) ∈ c_LAST) = true ∧ decide ((("jumpif" : Str)) ∈ c_LAST) = false := by decide +kernel
theorem jump_t : decide ((("const" : Str)) ∈ c_JUMPS) = false ∧ decide ((("load" : Str)) ∈ c_JUMPS) = false ∧ decide ((("store" : Str)) ∈ c_JUMPS) = false ∧ decide ((("fail" : Str)) ∈ c_JUMPS) = false ∧ decide ((("jump" : Str)) ∈ c_JUMPS) = true ∧ decide ((("jumpif" : Str)) ∈ c_JUMPS) = true := by decide +kernel
theorem nm_last (i : Itr) : decide (nm i ∈ c_LAST) = i.last := by
  cases i with
  | op o => cases o <;> decide +kernel
  | c n => exact last_t.1
  | ld w => exact last_t.2.1
  | sto w => exact last_t.2.2.1
  | fl w => exact last_t.2.2.2.1
  | jp t => exact last_t.2.2.2.2.1
  | ji t => exact last_t.2.2.2.2.2
theorem nm_jump (i : Itr) : decide (nm i ∈ c_JUMPS) = i.tgt.isSome := by
  cases i with
  | op o => cases o <;> decide +kernel
  | c n => exact jump_t.1
  | ld w => exact jump_t.2.1
  | sto w => exact jump_t.2.2.1
  | fl w => exact jump_t.2.2.2.1
  | jp t => exact jump_t.2.2.2.2.1
  | ji t => exact jump_t.2.2.2.2.2
theorem nm_ix (i : Itr) {S : Sto} : ixB S i.pv (.int 0) = some (.str (nm i)) := by cases i <;> rfl
theorem tgt_ix {i : Itr} {t : Nat} (h : i.tgt = some t) {S : Sto} : ixB S i.pv (.int 1) = some (.int (t : Nat)) := by
  cases i with
  | jp u => cases h; rfl
  | ji u => cases h; rfl
  | _ => cases h
/-- the exits: place, handler -/
def exN (n i : Nat) (r : Itr) : List (Nat × Option Hnd) := if r.last = false ∧ i + 1 < n then [(i + 1, none)] else []
def exJ (r : Itr) : List (Nat × Option Hnd) := match r.tgt with
  | some t => [(t, none)]
  | none => []
def exH (hds : List Hnd) (i : Nat) (r : Itr) : List (Nat × Option Hnd) := match kindO r with
  | some k => match hds.find? (rcv i k) with
    | some h => [(h.t, some h)]
    | none => []
  | none => []
def exits (n : Nat) (hds : List Hnd) (i : Nat) (r : Itr) : List (Nat × Option Hnd) := exN n i r ++ exJ r ++ exH hds i r
def hvP : Option Hnd → PV
  | none => .non
  | some h => h.pv
def exP (x : Nat × Option Hnd) : PV := .con .own .tup [.int x.1, hvP x.2]
section
variable {Γ : Gam} {P : RS → Prop} {t : EF} {ps : List PV}
theorem mapp (h3 : Γ[3]? = some (some (.ref 0))) (hz : ps.length < 100) (x : Nat × Option Hnd) (e : t Γ [some (.lst, ps)] = .ok (exP x) [some (.lst, ps)]) (k : rsP (.nx Γ [some (.lst, ps ++ [exP x])]) P) : rsP (sExpr (eM "list" appendF (eV 3) (aCons t aNil)) Γ [some (.lst, ps)]) P := by
  refine Pv.W.expr (Pv.W.meth (Pv.W.var h3 ⟨rfl, Pv.W.cons (okR.of e (Pv.W.nil ⟨.non, _, ?_, k⟩))⟩))
  have z : ps.length < sizeLine := by have : sizeLine = 16777216 := sizeLine_eq; omega
  show lstF _ _ _ _ = _
  unfold lstF
  simp only [List.getElem?_cons_zero, Option.join_some]
  rw [if_pos z]
  rfl
end
theorem clean_ex (x : Nat × Option Hnd) : clean (exP x) = true := by
  obtain ⟨t, h⟩ := x
  cases h with
  | none => rfl
  | some h =>
    have := clean_hnd h
    simp only [exP, hvP, clean, cleans, this]
    rfl
theorem cleans_ex : ∀ xs : List (Nat × Option Hnd), cleans (xs.map exP) = true
  | [] => rfl
  | x :: xs => by
    simp only [List.map_cons, cleans, clean_ex, cleans_ex xs]
    rfl
end Law

/-! G18: moves. -/
namespace Law
open PySem PySem.Spec PyProof.Rows L2 Pv
theorem lend_clean' {S : Sto} {p : PV} (h : clean p = true) : lendV S p = some p := by unfold lendV; rw [if_pos h]
theorem clean_itr (i : Itr) : clean i.pv = true := by
  cases i with
  | op o => cases o <;> rfl
  | _ => rfl
theorem cleans_hnds : ∀ hds : List Hnd, cleans (hds.map Hnd.pv) = true
  | [] => rfl
  | h :: hds => by simp only [List.map_cons, cleans, clean_hnd, cleans_hnds hds]; rfl
theorem in4 {Γ : Gam} {S : Sto} {w : Str} (l : List Str) (h : Γ[4]? = some (some (.str w))) : eOp inF (eV 4) (eC (.con .out .tup (l.map PV.str))) Γ S = .ok (.bl (decide (w ∈ l))) S := by
  have a : eV 4 Γ S = .ok (.str w) S := by unfold eV; rw [h]
  unfold eOp
  rw [a]
  show R.of (inF (.str w) (.con .out .tup (l.map PV.str)) S) = _
  rw [inF_strs (Or.inr rfl)]
  rfl
theorem nin4 {Γ : Gam} {S : Sto} {w : Str} (l : List Str) (h : Γ[4]? = some (some (.str w))) : eOp ninF (eV 4) (eC (.con .out .tup (l.map PV.str))) Γ S = .ok (.bl (!decide (w ∈ l))) S := by
  have a : eV 4 Γ S = .ok (.str w) S := by unfold eV; rw [h]
  unfold eOp
  rw [a]
  show R.of (ninF (.str w) (.con .out .tup (l.map PV.str)) S) = _
  rw [ninF_strs (Or.inr rfl)]
  rfl
theorem moves_okM {m : Md} (hm : m ≠ .lent) (rows : List Rw) (hds : List Hnd) (i : Nat) (r : Rw) (hr : rows[i]? = some r) (hz : rows.length < 100000) :
    f_moves [.con .own .tup (rows.map fun r => r.i.pv), .con m .tup (hds.map Hnd.pv), .int (i : Nat)] = .ok (.con .own .lst ((exits rows.length hds i r.i).map exP)) := by
  have hi := (List.getElem?_eq_some_iff.mp hr).1
  have z : sizeLine = 16777216 := sizeLine_eq
  have hcd : ∀ S : Sto, ixB S (.con .own .tup (rows.map fun r => r.i.pv)) (.int (i : Nat)) = some r.i.pv := fun S => by
    show L2.atI (rows.map fun r => r.i.pv) (i : Int) = _
    rw [atI_nat, List.getElem?_map, hr]
    rfl
  have le : (rows.map fun r : Rw => r.i.pv).length = rows.length := List.length_map _
  have ci : ∀ (Γ : Gam) (S : Sto), Γ[0]? = some (some (.con .own .tup (rows.map fun r => r.i.pv))) → Γ[2]? = some (some (.int (i : Nat))) → eOp ixF (eV 0) (eV 2) Γ S = .ok r.i.pv S := fun Γ S h0 h2 => by
    have a : eV 0 Γ S = .ok (.con .own .tup (rows.map fun r => r.i.pv)) S := by unfold eV; rw [h0]
    have b : eV 2 Γ S = .ok (.int (i : Nat)) S := by unfold eV; rw [h2]
    unfold eOp
    rw [a]
    show (eV 2 Γ S).bind _ = _
    rw [b]
    show R.of ((ixB S _ _).map _) = _
    rw [hcd]
    rfl
  have fin : ∀ (xs : List (Nat × Option Hnd)) (a b : Option PV) (w : Option PV), rsP (r1_moves [some (.con .own .tup (rows.map fun r => r.i.pv)), some (.con m .tup (hds.map Hnd.pv)), some (.int (i : Nat)), some (.ref 0), w, a, b] [some (.lst, xs.map exP)]) fun q => ∃ u S, q = .rt u S ∧ resP S u = .ok (.con .own .lst (xs.map exP)) := fun xs a b w =>
    Pv.W.ret (Pv.W.var rfl ⟨.ref 0, _, rfl, resP_ref rfl (cleans_ex xs)⟩)
  have last : ∀ (xs : List (Nat × Option Hnd)) (w : Option PV), xs.length < 50 → rsP (r2_moves [some (.con .own .tup (rows.map fun r => r.i.pv)), some (.con m .tup (hds.map Hnd.pv)), some (.int (i : Nat)), some (.ref 0), w, none, none] [some (.lst, xs.map exP)]) fun q => ∃ u S, q = .rt u S ∧ resP S u = .ok (.con .own .lst ((xs ++ exH hds i r.i).map exP)) := fun xs w hx => by
    refine Pv.W.seq (Pv.W.set (Pv.W.clP (Pv.W.cons (okR.of (ci _ _ rfl rfl) (Pv.W.nil ⟨_, _, (by simp only [List.mapM_cons, List.mapM_nil, lend_clean' (clean_itr r.i)]; rfl), kind_ok r.i, Pv.W.go ?_⟩)))))
    unfold exH
    cases hk : kindO r.i with
    | none =>
      simp only [List.append_nil]
      exact Pv.W.seq (Pv.W.iteF (S1 := [some (.lst, xs.map exP)]) rfl (Pv.W.next (Pv.W.go (fin xs _ _ w))))
    | some k =>
      refine Pv.W.seq (Pv.W.iteT (S1 := [some (.lst, xs.map exP)]) rfl ?_)
      refine Pv.W.seq (Pv.W.set (Pv.W.clP (Pv.W.cons (Pv.W.var rfl (Pv.W.cons (Pv.W.var rfl (Pv.W.cons (Pv.W.var rfl (Pv.W.nil ⟨[.con m .tup (hds.map Hnd.pv), .int (i : Nat), .str k], recvP hds i k, ?_, receiver_ok hds i k, Pv.W.go ?_⟩)))))))))
      · simp only [List.mapM_cons, List.mapM_nil]
        rw [lend_clean' (p := .con m .tup (hds.map Hnd.pv)) (by cases m <;> simp_all [clean, cleans_hnds])]
        rfl
      · unfold recvP
        cases hf : hds.find? (rcv i k) with
        | none =>
          have q := fin xs (some (okP (some k))) (some .non) w
          simp only [hf, List.append_nil]
          exact Pv.W.iteF (S1 := [some (.lst, xs.map exP)]) rfl (Pv.W.next (Pv.W.go q))
        | some h =>
          simp only [hf]
          refine Pv.W.iteT (S1 := [some (.lst, xs.map exP)]) rfl (mapp rfl (by rw [List.length_map]; omega) (h.t, some h) rfl (Pv.W.go ?_))
          have := fin (xs ++ [(h.t, some h)]) (some (okP (some k))) (some h.pv) w
          simpa using this
  have jmp : ∀ (xs : List (Nat × Option Hnd)), xs.length < 40 → rsP (r3_moves [some (.con .own .tup (rows.map fun r => r.i.pv)), some (.con m .tup (hds.map Hnd.pv)), some (.int (i : Nat)), some (.ref 0), some (.str (nm r.i)), none, none] [some (.lst, xs.map exP)]) fun q => ∃ u S, q = .rt u S ∧ resP S u = .ok (.con .own .lst ((xs ++ exJ r.i ++ exH hds i r.i).map exP)) := fun xs hx => by
    have tj := nm_jump r.i
    have et : bE (eOp inF (eV 4) (eC (.con .out .tup (c_JUMPS.map PV.str)))) [some (.con .own .tup (rows.map fun r => r.i.pv)), some (.con m .tup (hds.map Hnd.pv)), some (.int (i : Nat)), some (.ref 0), some (.str (nm r.i)), none, none] [some (.lst, xs.map exP)] = .ok (decide (nm r.i ∈ c_JUMPS)) [some (.lst, xs.map exP)] := by
      rw [bE_eq, in4 c_JUMPS (w := nm r.i) rfl]
      rfl
    unfold exJ
    cases ht : r.i.tgt with
    | none =>
      rw [ht] at tj
      rw [tj] at et
      simp only [List.append_nil]
      exact Pv.W.seq (Pv.W.iteF et (Pv.W.next (Pv.W.go (last xs _ (by omega)))))
    | some t =>
      rw [ht] at tj
      rw [tj] at et
      refine Pv.W.seq (Pv.W.iteT et (mapp rfl (by rw [List.length_map]; omega) (t, none) ?_ (Pv.W.go ?_)))
      · have c1 := ci [some (.con .own .tup (rows.map fun r => r.i.pv)), some (.con m .tup (hds.map Hnd.pv)), some (.int (i : Nat)), some (.ref 0), some (.str (nm r.i)), none, none] [some (.lst, xs.map exP)] rfl rfl
        have c2 : eOp ixF (eOp ixF (eV 0) (eV 2)) (eC (.int 1)) [some (.con .own .tup (rows.map fun r => r.i.pv)), some (.con m .tup (hds.map Hnd.pv)), some (.int (i : Nat)), some (.ref 0), some (.str (nm r.i)), none, none] [some (.lst, xs.map exP)] = .ok (.int (t : Nat)) [some (.lst, xs.map exP)] := by
          show (eOp ixF (eV 0) (eV 2) _ _).bind _ = _
          rw [c1]
          show R.of ((ixB _ r.i.pv (.int 1)).map _) = _
          rw [tgt_ix ht]
          rfl
        show ((eOp ixF (eOp ixF (eV 0) (eV 2)) (eC (.int 1)) _ _).bind _).bind _ = _
        rw [c2]
        rfl
      · have := last (xs ++ [(t, none)]) (some (.str (nm r.i))) (by simp; omega)
        simpa using this
  refine Pv.W.rdP rfl (Pv.W.seq (Pv.W.set (Pv.W.lstT (Pv.W.nil ⟨Nat.zero_le _, Pv.W.go ?_⟩))))
  refine Pv.W.seq (Pv.W.set (Pv.W.op (okR.of (ci _ _ rfl rfl) (Pv.W.con ⟨.str (nm r.i), [some (.lst, [])], ?_, Pv.W.go ?_⟩))))
  · show (ixB _ r.i.pv (.int 0)).map _ = _
    rw [nm_ix]
    rfl
  have tl := nm_last r.i
  have e1 : bE (eOp ninF (eV 4) (eC (.con .out .tup (c_LAST.map PV.str)))) [some (.con .own .tup (rows.map fun r => r.i.pv)), some (.con m .tup (hds.map Hnd.pv)), some (.int (i : Nat)), some (.ref 0), some (.str (nm r.i)), none, none] [some (.lst, [])] = .ok (!r.i.last) [some (.lst, [])] := by
    rw [bE_eq, ← tl, nin4 c_LAST (w := nm r.i) rfl]
    rfl
  have e2 : bE (eOp ltF (eOp (addF false) (eV 2) (eC (.int 1))) (eCall lenF (aCons (eV 0) aNil))) [some (.con .own .tup (rows.map fun r => r.i.pv)), some (.con m .tup (hds.map Hnd.pv)), some (.int (i : Nat)), some (.ref 0), some (.str (nm r.i)), none, none] [some (.lst, [])] = .ok (decide (i + 1 < rows.length)) [some (.lst, [])] := by
    have : bE (eOp ltF (eOp (addF false) (eV 2) (eC (.int 1))) (eCall lenF (aCons (eV 0) aNil))) [some (.con .own .tup (rows.map fun r => r.i.pv)), some (.con m .tup (hds.map Hnd.pv)), some (.int (i : Nat)), some (.ref 0), some (.str (nm r.i)), none, none] [some (.lst, [])] = .ok (decide ((i : Int) + 1 < ((rows.map fun r : Rw => r.i.pv).length : Nat))) [some (.lst, [])] := rfl
    rw [this, le]
    have e : decide ((i : Int) + 1 < (rows.length : Nat)) = decide (i + 1 < rows.length) := by rw [decide_eq_decide]; omega
    rw [e]
  have e3 : bAnd (bE (eOp ninF (eV 4) (eC (.con .out .tup (c_LAST.map PV.str))))) (bE (eOp ltF (eOp (addF false) (eV 2) (eC (.int 1))) (eCall lenF (aCons (eV 0) aNil)))) [some (.con .own .tup (rows.map fun r => r.i.pv)), some (.con m .tup (hds.map Hnd.pv)), some (.int (i : Nat)), some (.ref 0), some (.str (nm r.i)), none, none] [some (.lst, [])] = .ok (!r.i.last && decide (i + 1 < rows.length)) [some (.lst, [])] := by
    unfold bAnd
    rw [e1]
    show (if (!r.i.last) = true then _ else _) = _
    rw [e2]
    cases r.i.last <;> simp
  unfold exits exN
  by_cases hn : r.i.last = false ∧ i + 1 < rows.length
  · rw [if_pos hn]
    have e4 : (!r.i.last && decide (i + 1 < rows.length)) = true := by rw [hn.1]; simp [hn.2]
    rw [e4] at e3
    refine Pv.W.seq (Pv.W.iteT e3 (mapp (ps := []) rfl (by decide) (i + 1, none) rfl (Pv.W.go ?_)))
    exact jmp [(i + 1, none)] (by simp)
  · rw [if_neg hn]
    have e4 : (!r.i.last && decide (i + 1 < rows.length)) = false := by
      cases hl : r.i.last with
      | true => rfl
      | false => simp [hl] at hn ⊢; exact hn
    rw [e4] at e3
    exact Pv.W.seq (Pv.W.iteF e3 (Pv.W.next (Pv.W.go (jmp [] (by decide)))))
theorem moves_ok (rows : List Rw) (hds : List Hnd) (i : Nat) (r : Rw) (hr : rows[i]? = some r) (hz : rows.length < 100000) :
    f_moves [.con .own .tup (rows.map fun r => r.i.pv), .con .own .tup (hds.map Hnd.pv), .int (i : Nat)] = .ok (.con .own .lst ((exits rows.length hds i r.i).map exP)) := moves_okM (by decide) rows hds i r hr hz
end Law

/-! G19: rules for while, and for lists that stand still. -/
namespace Pv
open PySem PySem.Spec PyProof.Rows L2
section
variable {Γ : Gam} {S : Sto} {P : RS → Prop} {c : BF} {t : SF} {a : EF} {ps : List PV}
theorem W.whl (I : Nat → Gam → Sto → Prop) (step : ∀ m Γ S, I m Γ S → okR (c Γ S) fun k S1 => (k = false → rsP (.nx Γ S1) P) ∧ (k = true → rsP (t Γ S1) fun r => Trn r (fun Γ' S' => ∃ m', m' < m ∧ I m' Γ' S') P)) {m : Nat} (h : I m Γ S) (hm : m < 1000000000000) : rsP (sWhl c t Γ S) P :=
  sWhl_ind2 I P (fun m Γ S i => by
    obtain ⟨k, S1, e, h1, h2⟩ := (step m Γ S i).eq
    cases k with
    | false => exact Or.inl ⟨S1, e, h1 rfl⟩
    | true => exact Or.inr ⟨S1, e, h2 rfl⟩) h hm
/-- a for over a list that stands still, any target -/
theorem W.forS {gt : GF} (h : okR (a Γ S) fun v S1 => ∃ m ps, (v = .con m .lst ps ∨ v = .con m .tup ps) ∧ rsP (forL (sTurn gt t) ps Γ S1) P) : rsP (sFor (iAny a) gt t Γ S) P := by
  obtain ⟨v, S1, e, m, ps, e2, q⟩ := h.eq
  rcases e2 with e2 | e2
  · subst e2
    rw [sFor_eq, iAny_eq, e, anyK_lst, forK_L]
    exact q
  · subst e2
    rw [sFor_eq, iAny_eq, e, anyK_tup, forK_L]
    exact q
/-- its turns, by an invariant -/
theorem W.turns {α : Type} {gt : GF} (g : α → PV) (J : List α → List α → Gam → Sto → Prop) (step : ∀ d x r Γ S, J d (x :: r) Γ S → ∃ Γ1 S1, gt (g x) Γ S = .ok Γ1 S1 ∧ rsP (t Γ1 S1) fun q => Trn q (J (d ++ [x]) r) P) (h0 : ∀ d Γ S, J d [] Γ S → rsP (.nx Γ S) P) {r : List α} (h : J [] r Γ S) :
    rsP (forL (sTurn gt t) (r.map g) Γ S) P :=
  forM_ind g J P (fun d x r Γ S i => by
    obtain ⟨Γ1, S1, e, q⟩ := step d x r Γ S i
    have : sTurn gt t (g x) Γ S = t Γ1 S1 := by unfold sTurn; rw [e]; rfl
    rw [this]
    exact q) h0 r [] Γ S h
end
end Pv

/-! G20: one exit in the worklist of depths. -/
namespace Law
open PySem PySem.Spec PyProof.Rows L2 Pv
def okd : Option Nat → PV
  | none => .non
  | some d => .int (d : Nat)
def wantd (aft : Nat) (x : Nat × Option Hnd) : Nat := match x.2 with
  | none => aft
  | some h => h.d
abbrev dst (ds : List (Option Nat)) (wt : List Nat) : Sto := [some (.lst, ds.map okd), some (.lst, wt.map fun w => .int (w : Nat))]
theorem raise0 {c : Str} {Γ : Gam} {S : Sto} {P : RS → Prop} (h : P (.ex c [] Γ S)) : rsP (sRaise0 c Γ S) P := h
theorem dturn {ds : List (Option Nat)} {wt : List Nat} {x : Nat × Option Hnd} {dep aft : Nat} {P : RS → Prop} {c h i w y : Option PV} (ht : x.1 < ds.length) (hw : wt.length < 100000)
    (ok : (∀ Γ S, P (.ex "BadDepth" [] Γ S)) ∨ ((∀ h, x.2 = some h → h.d ≤ dep) ∧ ∀ d, ds[x.1]? = some (some d) → d = wantd aft x))
    (k : ∀ ds' wt', (ds[x.1]? = some (some (wantd aft x)) ∧ ds' = ds ∧ wt' = wt) ∨ (ds[x.1]? = some none ∧ ds' = ds.set x.1 (some (wantd aft x)) ∧ wt' = wt ++ [x.1]) →
      rsP (.nx [c, h, some (.ref 0), some (.ref 1), i, some (.int (dep : Nat)), w, some (.int (aft : Nat)), some (.int x.1), some (hvP x.2), some (.int (wantd aft x : Nat))] (dst ds' wt')) P) :
    rsP (l3_depths_of [c, h, some (.ref 0), some (.ref 1), i, some (.int (dep : Nat)), w, some (.int (aft : Nat)), some (.int x.1), some (hvP x.2), y] (dst ds wt)) P := by
  obtain ⟨t, ho⟩ := x
  have ht : t < ds.length := ht
  have gt : ∀ (Γ : Gam), Γ[2]? = some (some (.ref 0)) → Γ[8]? = some (some (.int (t : Nat))) → eOp ixF (eV 2) (eV 8) Γ (dst ds wt) = .ok (okd ds[t]) (dst ds wt) := fun Γ h2 h8 => by
    have a : eV 2 Γ (dst ds wt) = .ok (.ref 0) (dst ds wt) := by unfold eV; rw [h2]
    have b : eV 8 Γ (dst ds wt) = .ok (.int (t : Nat)) (dst ds wt) := by unfold eV; rw [h8]
    unfold eOp
    rw [a]
    show (eV 8 Γ (dst ds wt)).bind _ = _
    rw [b]
    show R.of ((ixB (dst ds wt) (.ref 0) (.int (t : Nat))).map _) = _
    rw [ixB_ref (n := 0) (ps := ds.map okd) rfl, atI_nat, List.getElem?_map, List.getElem?_eq_getElem ht]
    rfl
  have fin : ∀ (wn : Nat), wn = wantd aft (t, ho) → rsP (r2_depths_of [c, h, some (.ref 0), some (.ref 1), i, some (.int (dep : Nat)), w, some (.int (aft : Nat)), some (.int (t : Nat)), some (hvP ho), some (.int (wn : Nat))] (dst ds wt)) P := fun wn hwn => by
    subst hwn
    have g1 := gt [c, h, some (.ref 0), some (.ref 1), i, some (.int (dep : Nat)), w, some (.int (aft : Nat)), some (.int (t : Nat)), some (hvP ho), some (.int (wantd aft (t, ho) : Nat))] rfl rfl
    cases hd : ds[t] with
    | none =>
      rw [hd] at g1
      refine Pv.W.iteT (S1 := dst ds wt) (by rw [bE_eq, eU_eq, g1]; rfl) ?_
      refine Pv.W.seq (Pv.W.asg (Pv.W.var rfl (okR.of (v := [c, h, some (.ref 0), some (.ref 1), i, some (.int (dep : Nat)), w, some (.int (aft : Nat)), some (.int (t : Nat)), some (hvP ho), some (.int (wantd aft (t, ho) : Nat))]) (S := dst (ds.set t (some (wantd aft (t, ho)))) wt) ?_ (Pv.W.go ?_))))
      · show (match setLF (.ref 0) (.int (t : Nat)) (.int (wantd aft (t, ho) : Nat)) (dst ds wt) with
          | some S3 => R.ok _ S3
          | none => .bad) = _
        rw [setLF_ref (n := 0) (ps := ds.map okd) rfl]
        have : ixN (ds.map okd).length (t : Int) = some t := by unfold ixN; rw [if_pos (by omega), if_pos (by rw [List.length_map]; omega)]; simp
        rw [this]
        simp [List.map_set, okd]
      · refine Pv.W.expr (Pv.W.meth (Pv.W.var rfl ⟨rfl, Pv.W.cons (Pv.W.var rfl (Pv.W.nil ⟨.non, dst (ds.set t (some (wantd aft (t, ho)))) (wt ++ [t]), ?_, ?_⟩))⟩))
        · have z : (wt.map fun w : Nat => PV.int (w : Nat)).length < sizeLine := by have : sizeLine = 16777216 := sizeLine_eq; rw [List.length_map]; omega
          show lstF _ _ _ _ = _
          unfold lstF
          simp only [List.getElem?_cons_succ, List.getElem?_cons_zero, Option.join_some]
          rw [if_pos z]
          simp
        · exact k _ _ (Or.inr ⟨by rw [List.getElem?_eq_getElem ht, hd], rfl, rfl⟩)
    | some d =>
      rw [hd] at g1
      refine Pv.W.iteF (S1 := dst ds wt) (by rw [bE_eq, eU_eq, g1]; rfl) ?_
      have g2 : bE (eOp neF (eOp ixF (eV 2) (eV 8)) (eV 10)) [c, h, some (.ref 0), some (.ref 1), i, some (.int (dep : Nat)), w, some (.int (aft : Nat)), some (.int (t : Nat)), some (hvP ho), some (.int (wantd aft (t, ho) : Nat))] (dst ds wt) = .ok (!decide ((d : Int) = (wantd aft (t, ho) : Nat))) (dst ds wt) := by
        rw [bE_eq]
        show beK ((eOp ixF (eV 2) (eV 8) _ _).bind _) = _
        rw [g1]
        show beK (R.of (neF (.int (d : Nat)) (.int (wantd aft (t, ho) : Nat)) _)) = _
        simp
      by_cases e : d = wantd aft (t, ho)
      · refine Pv.W.iteF (S1 := dst ds wt) (by rw [g2]; simp [e]) (Pv.W.next (k _ _ (Or.inl ⟨by rw [List.getElem?_eq_getElem ht, hd, e], rfl, rfl⟩)))
      · refine Pv.W.iteT (S1 := dst ds wt) (by rw [g2]; simp; omega) ?_
        rcases ok with ok | ⟨_, ok⟩
        · exact raise0 (ok _ _)
        · exact absurd (ok d (by rw [List.getElem?_eq_getElem ht, hd])) e
  refine Pv.W.seq (Pv.W.set (Pv.W.var rfl (Pv.W.go ?_)))
  cases ho with
  | none => exact Pv.W.seq (Pv.W.iteF (S1 := dst ds wt) rfl (Pv.W.next (Pv.W.go (fin aft rfl))))
  | some hn =>
    refine Pv.W.seq (Pv.W.iteT (S1 := dst ds wt) rfl ?_)
    refine Pv.W.seq (Pv.W.set (okR.of (v := .int (hn.d : Nat)) (S := dst ds wt) rfl (Pv.W.go ?_)))
    refine Pv.W.ite (Pv.W.bE (Pv.W.cmpI (f := fun i j => decide (i < j)) (Pv.W.var rfl (Pv.W.var rfl ⟨(dep : Nat), (hn.d : Nat), rfl, rfl, _, rfl, fun hlt => ?_, fun _ => Pv.W.next (Pv.W.go (fin hn.d rfl))⟩))))
    rcases ok with ok | ⟨ok, _⟩
    · exact raise0 (ok _ _)
    · have := ok hn rfl
      have := of_decide_eq_true hlt
      omega
end Law

/-! G21: the worklist's measure; removed and pushed. -/
namespace Law
open PySem PySem.Spec PyProof.Rows L2 Pv
def cnt (ds : List (Option Nat)) : Nat := ds.countP fun x => x.isNone
theorem cnt_set : ∀ {ds : List (Option Nat)} {t v : Nat}, ds[t]? = some none → cnt (ds.set t (some v)) + 1 = cnt ds
  | [], t, v, h => by simp at h
  | d :: ds, 0, v, h => by
    have h : d = none := by simpa using h
    subst h
    simp [cnt]
  | d :: ds, t + 1, v, h => by
    have ih := cnt_set (ds := ds) (t := t) (v := v) (by simpa using h)
    unfold cnt at *
    rw [List.set_cons_succ, List.countP_cons, List.countP_cons]
    omega
theorem rem_get (i : Itr) : mgetV c_REMOVED (nm i) (.int 0) = .int (i.rem : Nat) := by
  cases i with
  | op o => cases o <;> rfl
  | _ => rfl
theorem push_get (i : Itr) : mgetV c_PUSHED (nm i) (.int 0) = .int (i.push : Nat) := by
  cases i with
  | op o => cases o <;> rfl
  | _ => rfl
/-- what holds of the depths and of what waits -/
structure DI (n : Nat) (ds : List (Option Nat)) (wt : List Nat) : Prop where
  len : ds.length = n
  w : ∀ i ∈ wt, ∃ d, ds[i]? = some (some d)
theorem DI.put {n : Nat} {ds : List (Option Nat)} {wt : List Nat} {t v : Nat} (h : DI n ds wt) (ht : ds[t]? = some none) : DI n (ds.set t (some v)) (wt ++ [t]) := by
  have hl := (List.getElem?_eq_some_iff.mp ht).1
  refine ⟨by rw [List.length_set]; exact h.len, fun i hi => ?_⟩
  by_cases e : i = t
  · subst e
    exact ⟨v, List.getElem?_set_self hl⟩
  · rw [List.getElem?_set_ne (Ne.symm e)]
    refine h.w i ?_
    rcases List.mem_append.mp hi with q | q
    · exact q
    · exact absurd (List.mem_singleton.mp q) e
end Law

/-! W2: more wishes; loops that look for the first bad item; a step tactic. -/
namespace Pv
open PySem PySem.Spec PyProof.Rows L2
section
variable {Γ : Gam} {S : Sto} {P : RS → Prop} {t u : SF} {a b c : EF} {as : AF} {i : Nat} {v : PV} {Q : PV → Sto → Prop} {Qs : List PV → Sto → Prop} {s s' : BF} {B : Bool → Sto → Prop}
theorem W.goR (h : rsP (.rt v S) P) : rsP (.rt v S) (thenS u P) := h
theorem W.goX {cc : Str} {fs : List (Str × PV)} (h : rsP (.ex cc fs Γ S) P) : rsP (.ex cc fs Γ S) (thenS u P) := h
theorem W.goB (h : rsP (.bk Γ S) P) : rsP (.bk Γ S) (thenS u P) := h
theorem W.bT (h : okR (a Γ S) fun v S1 => ∃ k, truB S1 v = some k ∧ B k S1) : okR (bT a Γ S) B := okR.bind (h.mono fun v S1 ⟨k, e, q⟩ => by rw [e]; exact q)
theorem W.eAnd (h : okR (a Γ S) fun v S1 => ∃ k, v = .bl k ∧ (k = true → okR (b Γ S1) Q) ∧ (k = false → Q (.bl false) S1)) : okR (eAnd a b Γ S) Q := okR.bind (h.mono fun v S1 ⟨k, e, h⟩ => by
  subst e
  cases k with
  | true => exact h.1 rfl
  | false => exact h.2 rfl)
theorem W.eOr (h : okR (a Γ S) fun v S1 => ∃ k, v = .bl k ∧ (k = true → Q (.bl true) S1) ∧ (k = false → okR (b Γ S1) Q)) : okR (eOr a b Γ S) Q := okR.bind (h.mono fun v S1 ⟨k, e, h⟩ => by
  subst e
  cases k with
  | true => exact h.1 rfl
  | false => exact h.2 rfl)
theorem W.eNot (h : okR (a Γ S) fun v S1 => ∃ k, v = .bl k ∧ Q (.bl (!k)) S1) : okR (eNot a Γ S) Q := okR.bind (h.mono fun v S1 ⟨k, e, h⟩ => by subst e; exact h)
theorem W.eU {f : PV → PV} (h : okR (a Γ S) fun v S1 => Q (f v) S1) : okR (eU f a Γ S) Q := okR.bind (h.mono fun v S1 h => h)
theorem W.eNeg (h : okR (a Γ S) fun v S1 => ∃ i : Int, v = .int i ∧ Q (.int (-i)) S1) : okR (eNeg a Γ S) Q := okR.bind (h.mono fun v S1 ⟨k, e, h⟩ => by subst e; exact h)
theorem W.eIf (h : okR (s Γ S) fun k S1 => (k = true → okR (a Γ S1) Q) ∧ (k = false → okR (b Γ S1) Q)) : okR (eIf s a b Γ S) Q := okR.bind (h.mono fun k S1 h => by
  cases k with
  | true => exact h.1 rfl
  | false => exact h.2 rfl)
/-- a chain of two comparisons over whole numbers -/
theorem W.chI {f f' : Int → Int → Bool} (h : okR (a Γ S) fun x S1 => okR (b Γ S1) fun y S2 => ∃ i j : Int, x = .int i ∧ y = .int j ∧ (f i j = true → okR (c Γ S2) fun z S3 => ∃ k : Int, z = .int k ∧ Q (.bl (f' j k)) S3) ∧ (f i j = false → Q (.bl false) S2)) :
    okR (eChain (iOp0 fun i j => .bl (f i j)) (iOp0 fun i j => .bl (f' i j)) a b c Γ S) Q := by
  unfold eChain
  refine okR.bind (h.mono fun x S1 h => okR.bind (h.mono fun y S2 ⟨i, j, e1, e2, h1, h2⟩ => ?_))
  subst e1 e2
  show okR (match (PV.bl (f i j)) with
      | .bl true => (c Γ S2).bind fun w S4 => R.of (iOp0 (fun i j => .bl (f' i j)) (.int j) w S4)
      | .bl false => .ok (.bl false) S2
      | _ => .bad) Q
  cases hf : f i j with
  | false => exact h2 hf
  | true =>
    refine okR.bind ((h1 hf).mono fun z S3 ⟨k, e, q⟩ => ?_)
    subst e
    exact q
theorem W.kT {A C : Prop} (h : A) : (true = true → A) ∧ (true = false → C) := ⟨fun _ => h, fun z => (by cases z)⟩
theorem W.kF {A C : Prop} (h : C) : (false = true → A) ∧ (false = false → C) := ⟨fun z => (by cases z), fun _ => h⟩
theorem W.kT' {A C : Prop} {k : Bool} (e : k = true) (h : A) : (k = true → A) ∧ (k = false → C) := ⟨fun _ => h, fun z => (by rw [e] at z; cases z)⟩
theorem W.kF' {A C : Prop} {k : Bool} (e : k = false) (h : C) : (k = true → A) ∧ (k = false → C) := ⟨fun z => (by rw [e] at z; cases z), fun _ => h⟩
theorem W.kD {A C : Prop} {p : Prop} [Decidable p] (h1 : p → A) (h2 : ¬ p → C) : (decide p = true → A) ∧ (decide p = false → C) := ⟨fun h => h1 (of_decide_eq_true h), fun h => h2 (of_decide_eq_false h)⟩
theorem W.kND {A C : Prop} {p : Prop} [Decidable p] (h1 : ¬ p → A) (h2 : p → C) : ((!decide p) = true → A) ∧ ((!decide p) = false → C) := ⟨fun h => h1 (by simpa using h), fun h => h2 (by simpa using h)⟩
theorem W.exprX {f : List PV → RP} {cc : Str} {fs : List (Str × PV)} (h : okR (as Γ S) fun vs S1 => ∃ qs, vs.mapM (lendV S1) = some qs ∧ f qs = .ex cc fs ∧ rsP (.ex cc fs Γ S1) P) : rsP (sExpr (eCallP f as) Γ S) P := by
  obtain ⟨vs, S1, e, qs, e2, e3, q⟩ := h.eq
  have : eCallP f as Γ S = .ex cc fs S1 := by
    simp only [eCallP_eq, e, calPK_ok, e2, calPK2_some, e3, calPK3_ex]
  rw [sExpr_eq, this, exprK_ex]
  exact q
theorem W.raise0 {cc : Str} (h : rsP (.ex cc [] Γ S) P) : rsP (sRaise0 cc Γ S) P := h
theorem W.raise1 {cc f : Str} (h : okR (as Γ S) fun vs S1 => ∃ w, vs = [w] ∧ rsP (.ex cc [(f, w)] Γ S1) P) : rsP (sRaise1 cc f as Γ S) P := by
  unfold sRaise1
  refine W.st (h.mono fun vs S1 ⟨w, e, q⟩ => ?_)
  subst e
  exact q
theorem W.fld {cs : List Str} {f : Str} {to te : EF} (h : okR (te Γ S) fun v S1 => okR (to Γ S1) fun o S2 => ∃ S3, stF cs f v S2 o = some S3 ∧ rsP (.nx Γ S3) P) : rsP (sFldF cs f to te Γ S) P := by
  unfold sFldF
  refine W.st (h.mono fun v S1 h => W.st (h.mono fun o S2 ⟨S3, e, q⟩ => ?_))
  rw [e]
  exact q
theorem W.get {cs : List Str} {f : Str} (h : okR (a Γ S) fun p S1 => ∃ v, fldP cs f S1 p = some v ∧ Q v S1) : okR (eFld cs f a Γ S) Q := okR.bind (h.mono fun p S1 ⟨v, e, q⟩ => by rw [e]; exact q)
theorem W.fldX {cs : List Str} {f : Str} {to te : EF} {cc : Str} {fs : List (Str × PV)} {S1 : Sto} (e : te Γ S = .ex cc fs S1) (h : rsP (.ex cc fs Γ S1) P) : rsP (sFldF cs f to te Γ S) P := by
  unfold sFldF
  rw [e]
  exact h
/-- a for over range, whatever the body -/
theorem W.forR (h : okR (as Γ S) fun vs S1 => ∃ m : Nat, vs = [.int (m : Nat)] ∧ m < 1000000 ∧ rsP (forL (sTurn (gN i) t) ((List.range m).map fun k : Nat => .int (k : Nat)) Γ S1) P) : rsP (sFor (iR1 as) (gN i) t Γ S) P := by
  refine W.forR1 (h.mono fun vs S1 ⟨m, e, hm, q⟩ => ⟨m, e, hm, ?_⟩)
  have : intsF 0 m = (List.range m).map fun k : Nat => PV.int (k : Nat) := by
    unfold intsF
    refine List.map_congr_left fun k _ => ?_
    simp
  rw [this]
  exact q
theorem W.forE {gt : GF} (h : okR (a Γ S) fun v S1 => ∃ m xs, v = .con m .lst xs ∧ rsP (forL (sTurn gt t) (enumF 0 xs) Γ S1) P) : rsP (sFor (iE a) gt t Γ S) P := by
  obtain ⟨v, S1, e, m, xs, e2, q⟩ := h.eq
  subst e2
  rw [sFor_eq, iE_eq, e, ieK_lst, forK_L]
  exact q
theorem lenK {m : Md} {k : Kd} {xs : List PV} {S : Sto} (h : k = .lst ∨ k = .tup) : lenF [.con m k xs] S = some (.int xs.length, S) := by rcases h with rfl | rfl <;> rfl
theorem ixK {m : Md} {k : Kd} {xs : List PV} {S : Sto} {i : Int} {v : PV} (h : k = .lst ∨ k = .tup) (e : L2.atI xs i = some v) : ixF (.con m k xs) (.int i) S = some (v, S) := by
  rcases h with rfl | rfl
  · show (L2.atI xs i).map _ = _
    rw [e]; rfl
  · show (L2.atI xs i).map _ = _
    rw [e]; rfl
theorem enumF_range (xs : List PV) : enumF 0 xs = (List.range xs.length).map fun k : Nat => .con .own .tup [.int (k : Nat), xs.getD k .non] := by
  refine List.ext_getElem? fun j => ?_
  rw [enumF_get, List.getElem?_map]
  by_cases h : j < xs.length
  · rw [List.getElem?_range h, List.getElem?_eq_getElem h]
    simp [List.getElem?_eq_getElem h]
  · rw [List.getElem?_eq_none (by omega), List.getElem?_eq_none (by rw [List.length_range]; omega)]
    rfl
def isOut : RS → Prop
  | .rt _ _ => True
  | .ex _ _ _ _ => True
  | _ => False
/-- turn by turn, any target -/
def forQ (gt : GF) (t : SF) (ps : List PV) (P : RS → Prop) : RS → Prop
  | .nx Γ S => rsP (forL (sTurn gt t) ps Γ S) P
  | .ct Γ S => rsP (forL (sTurn gt t) ps Γ S) P
  | .bk Γ S => P (.nx Γ S)
  | r => P r
theorem W.forK {gt : GF} {p : PV} {ps : List PV} (h : okR (gt p Γ S) fun Γ1 S1 => rsP (t Γ1 S1) (forQ gt t ps P)) : rsP (forL (sTurn gt t) (p :: ps) Γ S) P := by
  obtain ⟨Γ1, S1, e1, h⟩ := h.eq
  unfold rsP at *
  have e : sTurn gt t p Γ S = t Γ1 S1 := by unfold sTurn; rw [e1]; rfl
  unfold forL
  rw [e]
  cases q : t Γ1 S1 with
  | nx Γ1 S1 => rw [q] at h; exact h
  | ct Γ1 S1 => rw [q] at h; exact h
  | bk Γ1 S1 => rw [q] at h; exact h
  | rt v S1 => rw [q] at h; exact h
  | ex c fs Γ1 S1 => rw [q] at h; exact h
  | bad => rw [q] at h; exact h
theorem W.forKN {b : PV → SF} (h : rsP (.nx Γ S) P) : rsP (forL b [] Γ S) P := h
theorem W.forKG {gt : GF} {ps : List PV} (h : rsP (forL (sTurn gt t) ps Γ S) P) : rsP (.nx Γ S) (forQ gt t ps P) := h
theorem W.forKR {gt : GF} {ps : List PV} (h : rsP (.rt v S) P) : rsP (.rt v S) (forQ gt t ps P) := h
theorem W.forKX {gt : GF} {ps : List PV} {cc : Str} {fs : List (Str × PV)} (h : rsP (.ex cc fs Γ S) P) : rsP (.ex cc fs Γ S) (forQ gt t ps P) := h
theorem W.ch3 {d : EF} {f f' f'' : Int → Int → Bool} (h : okR (a Γ S) fun x S1 => okR (b Γ S1) fun y S2 => ∃ i j : Int, x = .int i ∧ y = .int j ∧ (f i j = true → okR (c Γ S2) fun z S3 => ∃ k : Int, z = .int k ∧ (f' j k = true → okR (d Γ S3) fun w S4 => ∃ l : Int, w = .int l ∧ B (f'' k l) S4) ∧ (f' j k = false → B false S3)) ∧ (f i j = false → B false S2)) :
    okR (bCh3 f f' f'' a b c d Γ S) B := by
  obtain ⟨x, S1, e1, h⟩ := h.eq
  obtain ⟨y, S2, e2, i, j, rfl, rfl, h1, h2⟩ := h.eq
  rw [bCh3_eq, e1, ch3K0_ok, e2, ch3K1_ok]
  by_cases c1 : f i j = true
  · rw [if_pos c1]
    obtain ⟨z, S3, e3, k, rfl, h3, h4⟩ := (h1 c1).eq
    rw [e3, ch3K2_ok]
    by_cases c2 : f' j k = true
    · rw [if_pos c2]
      obtain ⟨w, S4, e4, l, rfl, h5⟩ := (h3 c2).eq
      rw [e4, ch3K3_ok]
      exact h5
    · rw [if_neg c2]
      exact h4 (by simpa using c2)
  · rw [if_neg c1]
    exact h2 (by simpa using c1)
theorem W.sl {mu : Bool} {lo hi : OFn} (h : okR (a Γ S) fun p S1 => okR (lo Γ S1) fun l S2 => okR (hi Γ S2) fun u S3 => ∃ z S4, slF mu p l u S3 = some (z, S4) ∧ Q z S4) : okR (eSl mu a lo hi Γ S) Q :=
  okR.bind (h.mono fun _ _ h => okR.bind (h.mono fun _ _ h => okR.bind (h.mono fun _ _ ⟨z, S4, e, q⟩ => by rw [e]; exact q)))
theorem W.turn {gt : GF} {p : PV} (h : okR (gt p Γ S) fun Γ1 S1 => rsP (t Γ1 S1) P) : rsP (sTurn gt t p Γ S) P := by
  obtain ⟨Γ1, S1, e1, h⟩ := h.eq
  have e : sTurn gt t p Γ S = t Γ1 S1 := by unfold sTurn; rw [e1]; rfl
  rw [e]
  exact h
/-- a loop that leaves at the first bad item -/
theorem W.find {α : Type} {gt : GF} (g : α → PV) (I : Gam → Prop) (bad : α → Bool) {l : List α} (hI : I Γ)
    (step : ∀ x ∈ l, ∀ Γ, I Γ → rsP (sTurn gt t (g x) Γ S) fun q => if bad x = true then isOut q ∧ (l.find? bad = some x → P q) else ∃ Γ', q = .nx Γ' S ∧ I Γ')
    (done : l.find? bad = none → ∀ Γ, I Γ → rsP (.nx Γ S) P) : rsP (forL (sTurn gt t) (l.map g) Γ S) P := by
  refine forM_ind g (fun d r Γ' S' => S' = S ∧ I Γ' ∧ l = d ++ r ∧ d.find? bad = none) P (fun d x r Γ' S' ⟨e, i, e2, hd⟩ => ?_) (fun d Γ' S' ⟨e, i, e2, hd⟩ => ?_) l [] Γ S ⟨rfl, hI, rfl, rfl⟩
  · subst e
    have hx : x ∈ l := by rw [e2]; simp
    have q := step x hx Γ' i
    unfold rsP at q
    cases hb : bad x with
    | true =>
      rw [hb, if_pos rfl] at q
      obtain ⟨q1, q2⟩ := q
      have hf : l.find? bad = some x := by rw [e2, List.find?_append, hd]; simp [hb]
      have q2 := q2 hf
      cases hq : sTurn gt t (g x) Γ' S' with
      | rt v S => rw [hq] at q2; exact q2
      | ex c fs Γ S => rw [hq] at q2; exact q2
      | _ => rw [hq] at q1; exact q1.elim
    | false =>
      rw [hb, if_neg (by decide)] at q
      obtain ⟨Γ2, e3, i2⟩ := q
      rw [e3]
      exact ⟨rfl, i2, by rw [e2]; simp, by rw [List.find?_append, hd]; simp [hb]⟩
  · subst e
    rw [List.append_nil] at e2
    exact done (by rw [e2]; exact hd) Γ' i
end
end Pv

local macro_rules | `(tactic| wtm_at "s1") => `(tactic| ((with_reducible show Pv.tyP _ _ _ = true ∧ _); refine ⟨rfl, ?_⟩))
local macro_rules | `(tactic| wtm_at "s1") => `(tactic| ((with_reducible show _ ≤ PySem.sizeLine ∧ _); refine ⟨Nat.le_of_ble_eq_true rfl, ?_⟩))
local macro_rules | `(tactic| wtm_at "s1") => `(tactic| ((with_reducible show ∃ i j : Int, _ = Pv.PV.int i ∧ _ = Pv.PV.int j ∧ _); refine ⟨_, _, rfl, rfl, ?_⟩))
local macro_rules | `(tactic| wtm_at "s1") => `(tactic| ((with_reducible show ∃ k, [_] = [k] ∧ _); refine ⟨_, rfl, ?_⟩))
local macro_rules | `(tactic| wtm_at "s1") => `(tactic| ((with_reducible show ∃ v, Pv.fldP _ _ _ _ = some v ∧ _); refine ⟨_, rfl, ?_⟩))
local macro_rules | `(tactic| wtm_at "s1") => `(tactic| ((with_reducible show ∃ S3, Pv.stF _ _ _ _ _ = some S3 ∧ _); refine ⟨_, rfl, ?_⟩))
local macro_rules | `(tactic| wtm_at "s1") => `(tactic| ((with_reducible show ∃ m ps, (_ = Pv.PV.con m Pv.Kd.lst ps ∨ _ = Pv.PV.con m Pv.Kd.tup ps) ∧ _); first | refine ⟨_, _, Or.inl rfl, ?_⟩ | refine ⟨_, _, Or.inr rfl, ?_⟩))
local macro_rules | `(tactic| wtm_at "s1") => `(tactic| ((with_reducible show ∃ k, Pv.truB _ _ = some k ∧ _); refine ⟨_, rfl, ?_⟩))
local macro_rules | `(tactic| wtm_at "s1") => `(tactic| ((with_reducible show ∃ k, _ = Pv.PV.int k ∧ _); refine ⟨_, rfl, ?_⟩))
local macro_rules | `(tactic| wtm_at "s1") => `(tactic| ((with_reducible show ∃ k, _ = Pv.PV.bl k ∧ _); refine ⟨_, rfl, ?_⟩))
local macro_rules | `(tactic| wtm_at "s1") => `(tactic| ((with_reducible show ∃ z S3, _ = some (z, S3) ∧ _); refine ⟨_, _, rfl, ?_⟩))
local macro_rules | `(tactic| wtm_at "s1") => `(tactic| ((with_reducible show ∃ z S3, Pv.lenF [Pv.PV.con _ _ _] _ = some (z, S3) ∧ _); refine ⟨_, _, Pv.lenK (by assumption), ?_⟩))
local macro_rules | `(tactic| wtm_at "s1") => `(tactic| ((with_reducible show ∃ z S3, Pv.inF (Pv.PV.str _) (Pv.PV.con _ Pv.Kd.tup (List.map Pv.PV.str _)) _ = some (z, S3) ∧ _); refine ⟨_, _, Pv.inF_strs (Or.inr rfl) _ _, ?_⟩))
local macro_rules | `(tactic| wtm_at "s1") => `(tactic| ((with_reducible show ∃ z S3, Pv.ninF (Pv.PV.str _) (Pv.PV.con _ Pv.Kd.tup (List.map Pv.PV.str _)) _ = some (z, S3) ∧ _); refine ⟨_, _, Pv.ninF_strs (Or.inr rfl) _ _, ?_⟩))
local macro_rules | `(tactic| wtm_at "sO") => `(tactic| ((with_reducible show Pv.okR (Pv.oS (Pv.eC (Pv.PV.int _)) _ _) _); refine Pv.okR.of rfl ?_))
local macro_rules | `(tactic| wtm_at "sO") => `(tactic| ((with_reducible show Pv.okR (Pv.oN _ _) _); refine Pv.okR.of rfl ?_))
local macro_rules | `(tactic| wtm_at "sO") => `(tactic| ((with_reducible show Pv.okR (Pv.gN _ _ _ _) _); refine Pv.okR.of rfl ?_))
local macro_rules | `(tactic| wtm_at "sO") => `(tactic| ((with_reducible show Pv.okR (Pv.gU _ _ _ _) _); refine Pv.okR.of rfl ?_))
local macro_rules | `(tactic| wtm_at "sO") => `(tactic| with_reducible refine Pv.W.meth ?_)
local macro_rules | `(tactic| wtm_at "sO") => `(tactic| with_reducible refine Pv.W.clP ?_)
local macro_rules | `(tactic| wtm_at "sO") => `(tactic| with_reducible refine Pv.W.callW ?_)
local macro_rules | `(tactic| wtm_at "sO") => `(tactic| with_reducible refine Pv.W.call ?_)
local macro_rules | `(tactic| wtm_at "sO") => `(tactic| with_reducible refine Pv.W.lstT ?_)
local macro_rules | `(tactic| wtm_at "sO") => `(tactic| with_reducible refine Pv.W.lstF ?_)
local macro_rules | `(tactic| wtm_at "sO") => `(tactic| with_reducible refine Pv.W.tup ?_)
local macro_rules | `(tactic| wtm_at "sO") => `(tactic| with_reducible refine Pv.W.eIf ?_)
local macro_rules | `(tactic| wtm_at "sO") => `(tactic| with_reducible refine Pv.W.eNeg ?_)
local macro_rules | `(tactic| wtm_at "sO") => `(tactic| with_reducible refine Pv.W.eU ?_)
local macro_rules | `(tactic| wtm_at "sO") => `(tactic| with_reducible refine Pv.W.eNot ?_)
local macro_rules | `(tactic| wtm_at "sO") => `(tactic| with_reducible refine Pv.W.eOr ?_)
local macro_rules | `(tactic| wtm_at "sO") => `(tactic| with_reducible refine Pv.W.eAnd ?_)
local macro_rules | `(tactic| wtm_at "sO") => `(tactic| with_reducible refine Pv.W.bT ?_)
local macro_rules | `(tactic| wtm_at "sO") => `(tactic| with_reducible refine Pv.W.not ?_)
local macro_rules | `(tactic| wtm_at "sO") => `(tactic| with_reducible refine Pv.W.and ?_)
local macro_rules | `(tactic| wtm_at "sO") => `(tactic| with_reducible refine Pv.W.or ?_)
local macro_rules | `(tactic| wtm_at "sO") => `(tactic| with_reducible refine Pv.W.bE ?_)
local macro_rules | `(tactic| wtm_at "sO") => `(tactic| with_reducible refine Pv.W.chI ?_)
local macro_rules | `(tactic| wtm_at "sO") => `(tactic| with_reducible refine Pv.W.get ?_)
local macro_rules | `(tactic| wtm_at "sO") => `(tactic| with_reducible refine Pv.W.sl ?_)
local macro_rules | `(tactic| wtm_at "sO") => `(tactic| with_reducible refine Pv.W.ch3 ?_)
local macro_rules | `(tactic| wtm_at "sO") => `(tactic| with_reducible refine Pv.W.op ?_)
local macro_rules | `(tactic| wtm_at "sO") => `(tactic| with_reducible refine Pv.W.cmpI ?_)
local macro_rules | `(tactic| wtm_at "sO") => `(tactic| with_reducible refine Pv.W.nil ?_)
local macro_rules | `(tactic| wtm_at "sO") => `(tactic| with_reducible refine Pv.W.cons ?_)
local macro_rules | `(tactic| wtm_at "sO") => `(tactic| with_reducible refine Pv.W.con ?_)
local macro_rules | `(tactic| wtm_at "sO") => `(tactic| ((with_reducible show Pv.okR (Pv.eV _ _ _) _); refine Pv.W.var rfl ?_))
local macro_rules | `(tactic| wtm_at "sR") => `(tactic| with_reducible refine Pv.W.raise1 ?_)
local macro_rules | `(tactic| wtm_at "sR") => `(tactic| with_reducible refine Pv.W.raise0 ?_)
local macro_rules | `(tactic| wtm_at "sR") => `(tactic| with_reducible refine Pv.W.asg ?_)
local macro_rules | `(tactic| wtm_at "sR") => `(tactic| with_reducible refine Pv.W.fld ?_)
local macro_rules | `(tactic| wtm_at "sR") => `(tactic| with_reducible refine Pv.W.forR ?_)
local macro_rules | `(tactic| wtm_at "sR") => `(tactic| (with_reducible refine Pv.W.turn ?_; refine Pv.okR.of rfl ?_; try simp only [List.set_cons_succ, List.set_cons_zero]))
local macro_rules | `(tactic| wtm_at "sR") => `(tactic| with_reducible refine Pv.W.forS ?_)
local macro_rules | `(tactic| wtm_at "sR") => `(tactic| with_reducible refine Pv.W.forK ?_)
local macro_rules | `(tactic| wtm_at "sR") => `(tactic| with_reducible refine Pv.W.forKX ?_)
local macro_rules | `(tactic| wtm_at "sR") => `(tactic| with_reducible refine Pv.W.forKR ?_)
local macro_rules | `(tactic| wtm_at "sR") => `(tactic| with_reducible refine Pv.W.forKG ?_)
local macro_rules | `(tactic| wtm_at "sR") => `(tactic| with_reducible refine Pv.W.forKN ?_)
local macro_rules | `(tactic| wtm_at "sR") => `(tactic| with_reducible refine Pv.W.goB ?_)
local macro_rules | `(tactic| wtm_at "sR") => `(tactic| with_reducible refine Pv.W.goX ?_)
local macro_rules | `(tactic| wtm_at "sR") => `(tactic| with_reducible refine Pv.W.next ?_)
local macro_rules | `(tactic| wtm_at "sR") => `(tactic| with_reducible refine Pv.W.goR ?_)
local macro_rules | `(tactic| wtm_at "sR") => `(tactic| with_reducible refine Pv.W.ret ?_)
local macro_rules | `(tactic| wtm_at "sR") => `(tactic| with_reducible refine Pv.W.ite ?_)
local macro_rules | `(tactic| wtm_at "sR") => `(tactic| with_reducible refine Pv.W.expr ?_)
local macro_rules | `(tactic| wtm_at "sR") => `(tactic| with_reducible refine Pv.W.set ?_)
local macro_rules | `(tactic| wtm_at "sR") => `(tactic| (with_reducible refine Pv.W.go ?_; try simp only [List.set_cons_succ, List.set_cons_zero]))
local macro_rules | `(tactic| wtm_at "sR") => `(tactic| with_reducible refine Pv.W.seq ?_)
local macro_rules | `(tactic| wtm_at "sA") => `(tactic| ((with_reducible show (_ = true → _) ∧ (_ = false → _)); first | refine Pv.W.kT' rfl ?_ | refine Pv.W.kF' rfl ?_))
local macro_rules | `(tactic| wtm_at "sA") => `(tactic| with_reducible refine Pv.W.kF ?_)
local macro_rules | `(tactic| wtm_at "sA") => `(tactic| with_reducible refine Pv.W.kT ?_)
local macro_rules | `(tactic| wtm_at "s1") => `(tactic| ((with_reducible show Pv.okR _ _); wtm_at "sO"))
local macro_rules | `(tactic| wtm_at "s1") => `(tactic| ((with_reducible show Pv.rsP _ _); wtm_at "sR"))
local macro_rules | `(tactic| wtm_at "s1") => `(tactic| ((with_reducible show (_ = true → _) ∧ (_ = false → _)); wtm_at "sA"))
local macro_rules | `(tactic| wtm_at "s") => `(tactic| first | wtm_at "s1" | fail "s")
local macro_rules | `(tactic| wtm_at "ss") => `(tactic| repeat' wtm_at "s")
local macro_rules | `(tactic| wtm_at "in") => `(tactic| (refine Pv.W.rdP rfl ?_; simp only [List.map_cons, List.map_nil, List.length_cons, List.length_nil, Nat.reduceAdd, Nat.reduceSub, List.replicate_succ, List.replicate_zero, List.cons_append, List.nil_append, List.replicate]))

/-! W3: enumerate of lists and tuples. -/
namespace Pv
open PySem PySem.Spec PyProof.Rows L2
theorem W.forE2 {gt : GF} {a : EF} {t : SF} {Γ : Gam} {S : Sto} {P : RS → Prop} (h : okR (a Γ S) fun v S1 => ∃ m k xs, (k = .lst ∨ k = .tup) ∧ v = .con m k xs ∧ rsP (forL (sTurn gt t) (enumF 0 xs) Γ S1) P) : rsP (sFor (iE2 a) gt t Γ S) P := by
  obtain ⟨v, S1, e, m, k, xs, hk, e2, q⟩ := h.eq
  subst e2
  rcases hk with rfl | rfl
  · rw [sFor_eq, iE2_eq, e, ieK2_lst, forK_L]
    exact q
  · rw [sFor_eq, iE2_eq, e, ieK2_tup, forK_L]
    exact q
theorem lendK {S : Sto} {m : Md} {k : Kd} {xs : List PV} (h : cleans xs = true) : lendV S (.con m k xs) = some (.con m k xs) := by
  unfold lendV
  cases m with
  | lent =>
    rw [if_neg (by simp [clean])]
    show (if cleans xs = true then _ else _) = _
    rw [if_pos h]
  | own => rw [if_pos (by simpa [clean] using h)]
  | out => rw [if_pos (by simpa [clean] using h)]
end Pv

/-! U1: which values may stand in code; what the check says of them. -/
namespace Law
open PySem PySem.Spec PyProof.Rows L2 Pv
def tu (xs : List PV) : PV := .con .own .tup xs
def oddC : List PV := [tu [.str "mul"], tu [.str "pop", .int 1], tu [.str "const"], tu [.str "load", .str "A"], tu [.str "jump", .int (-1)], tu [.str "jump", .bl true], .con .own .lst [.str "pop"], .non, .int 5, tu [.str "Pop"]]
inductive CV : PV → Bool → Prop
  | ok (i : Itr) (g : i.good) : CV i.pv true
  | odd (v : PV) (h : v ∈ oddC) : CV v false
theorem odd_fits {v : PV} (h : v ∈ oddC) : f_fits_form [v] = .ok (.bl false) ∧ clean v = true := by
  simp only [oddC, List.mem_cons, List.not_mem_nil, or_false] at h
  rcases h with rfl | rfl | rfl | rfl | rfl | rfl | rfl | rfl | rfl | rfl <;> exact ⟨rfl, rfl⟩
end Law

/-! U2: lines and handlers. -/
namespace Law
open PySem PySem.Spec PyProof.Rows L2 Pv
theorem in_range_int {n a b : Int} : f_in_range [.int n, .int a, .int b] = .ok (.bl (decide (a ≤ n ∧ n ≤ b))) := by
  refine Pv.W.rdP rfl ?_
  unfold body_in_range
  wtm_at "ss"
  refine Pv.W.kD (fun h => ?_) fun h => ?_
  · wtm_at "ss"
    exact ⟨_, _, rfl, by simp [h]⟩
  · wtm_at "ss"
    exact ⟨_, _, rfl, by simp [h]⟩
def oddL : List PV := [.int (-1), .int 1000001, .bl true, .non, .str "1"]
inductive LV : PV → Bool → Prop
  | ok (n : Nat) (h : n ≤ 1000000) : LV (.int n) true
  | odd (v : PV) (h : v ∈ oddL) : LV v false
theorem lv_range {v : PV} {b : Bool} (h : LV v b) : f_in_range [v, .int 0, .int c_LINES] = .ok (.bl b) ∧ clean v = true := by
  cases h with
  | ok n h => exact ⟨by rw [in_range_int, decide_eq_true (by unfold c_LINES; omega)], rfl⟩
  | odd v h =>
    simp only [oddL, List.mem_cons, List.not_mem_nil, or_false] at h
    rcases h with rfl | rfl | rfl | rfl | rfl <;> exact ⟨rfl, rfl⟩
inductive KV : PV → Bool → Prop
  | ok (o : Option Str) (h : ∀ w, o = some w → WdOk w) : KV (okP o) true
  | odd (v : PV) (h : v = .str "A" ∨ v = .int 5) : KV v false
def oddH : List PV := [tu [.int 0, .int 1, .int 0, .int 0], .con .own .lst [.int 0, .int 1, .int 0, .int 0, .non], tu [.int 0, .int 1, .bl true, .int 0, .non], .non, tu [.str "0", .int 1, .int 0, .int 0, .non]]
inductive HV (n : Nat) : PV → Bool → Prop
  | num (s e t d : Int) (k : PV) (b : Bool) (h : KV k b) : HV n (tu [.int s, .int e, .int t, .int d, k]) (decide ((0 ≤ s ∧ s < e ∧ e ≤ n) ∧ (0 ≤ t ∧ t < n) ∧ (0 ≤ d ∧ d ≤ 200)) && b)
  | odd (v : PV) (h : v ∈ oddH) : HV n v false
theorem kv_word {k : PV} {b : Bool} (h : KV k b) : (isNP k = true ∧ b = true) ∨ (isNP k = false ∧ f_is_word [k] = .ok (.bl b)) := by
  cases h with
  | ok o h => cases o with
    | none => exact Or.inl ⟨rfl, rfl⟩
    | some w => exact Or.inr ⟨rfl, is_word_ok (h w rfl)⟩
  | odd v h => rcases h with rfl | rfl <;> exact Or.inr ⟨rfl, rfl⟩
theorem kv_clean {k : PV} {b : Bool} (h : KV k b) : clean k = true := by
  cases h with
  | ok o h => cases o <;> rfl
  | odd v h => rcases h with rfl | rfl <;> rfl
theorem rbl {S : Sto} {b c : Bool} (h : b = c) : resP S (.bl b) = .ok (.bl c) := by rw [h]; rfl
theorem hv_is {n : Nat} {v : PV} {b : Bool} (h : HV n v b) : f_is_handler [v, .int n] = .ok (.bl b) := by
  cases h with
  | num s e t d k b h =>
    wtm_at "in"
    unfold body_is_handler
    wtm_at "ss"
    unfold r1_is_handler
    wtm_at "ss"
    refine ⟨_, _, rfl, in_range_int, ?_⟩
    wtm_at "ss"
    refine Pv.W.kND (fun h1 => ?_) fun h1 => ?_
    · wtm_at "ss"
      exact ⟨_, _, rfl, rbl (by rw [decide_eq_false (by omega)]; rfl)⟩
    wtm_at "ss"
    refine ⟨_, _, rfl, in_range_int, ?_⟩
    wtm_at "ss"
    refine Pv.W.kND (fun h2 => ?_) fun h2 => ?_
    · wtm_at "ss"
      exact ⟨_, _, rfl, rbl (by rw [decide_eq_false (by omega)]; rfl)⟩
    wtm_at "ss"
    refine Pv.W.kD (fun h3 => ?_) fun h3 => ?_
    · wtm_at "ss"
      exact ⟨_, _, rfl, rbl (by rw [decide_eq_false (by omega)]; rfl)⟩
    wtm_at "ss"
    unfold r0_is_handler
    wtm_at "ss"
    refine ⟨_, _, rfl, in_range_int, ?_⟩
    wtm_at "ss"
    refine Pv.W.kD (fun h4 => ?_) fun h4 => ?_
    · wtm_at "ss"
      refine ⟨_, _, rfl, in_range_int, ?_⟩
      wtm_at "ss"
      refine Pv.W.kD (fun h5 => ?_) fun h5 => ?_
      · unfold c_MOST at h5
        wtm_at "ss"
        have hd : decide ((0 ≤ s ∧ s < e ∧ e ≤ (n : Int)) ∧ (0 ≤ t ∧ t < (n : Int)) ∧ (0 ≤ d ∧ d ≤ 200)) = true := decide_eq_true (by omega)
        rw [hd]
        rcases kv_word h with ⟨k1, rfl⟩ | ⟨k1, k2⟩
        · refine Pv.W.kT' k1 ?_
          exact ⟨_, _, rfl, rfl⟩
        · refine Pv.W.kF' k1 ?_
          wtm_at "ss"
          refine ⟨[k], _, by simp [lend_clean (kv_clean h)], k2, ?_⟩
          wtm_at "ss"
          exact ⟨_, _, rfl, rfl⟩
      · unfold c_MOST at h5
        wtm_at "ss"
        exact ⟨_, _, rfl, rbl (by rw [decide_eq_false (by omega)]; rfl)⟩
    · wtm_at "ss"
      exact ⟨_, _, rfl, rbl (by rw [decide_eq_false (by omega)]; rfl)⟩
  | odd v h =>
    simp only [oddH, List.mem_cons, List.not_mem_nil, or_false] at h
    rcases h with rfl | rfl | rfl | rfl | rfl
    · rfl
    · rfl
    · wtm_at "in"
      unfold body_is_handler
      wtm_at "ss"
      unfold r1_is_handler
      wtm_at "ss"
      refine ⟨_, _, rfl, in_range_int, ?_⟩
      wtm_at "ss"
      refine Pv.W.kND (fun h1 => ?_) fun h1 => ?_
      · wtm_at "ss"
        exact ⟨_, _, rfl, rfl⟩
      wtm_at "ss"
      refine ⟨_, _, rfl, in_range_int, ?_⟩
      wtm_at "ss"
      refine Pv.W.kND (fun h2 => ?_) fun h2 => ?_
      · wtm_at "ss"
        exact ⟨_, _, rfl, rfl⟩
      wtm_at "ss"
      unfold r0_is_handler
      wtm_at "ss"
      refine ⟨_, .bl false, rfl, rfl, ?_⟩
      wtm_at "ss"
      exact ⟨_, _, rfl, rfl⟩
    · rfl
    · rfl
end Law

/-! U3: what the check finds: the first error of the parts. -/
namespace Law
open PySem PySem.Spec PyProof.Rows L2 Pv
/-- code, lines and handlers that may be passed; with what is said of each value -/
structure Vals where
  cs : List PV
  ls : List PV
  hs : List PV
  cb : Nat → Bool
  lb : Nat → Bool
  hb : Nat → Bool
  hc : ∀ k v, cs[k]? = some v → CV v (cb k)
  hl : ∀ k v, ls[k]? = some v → LV v (lb k)
  hh : ∀ k v, hs[k]? = some v → HV cs.length v (hb k)
  nc : cs.length < 1000
  nl : ls.length < 1000
  nh : hs.length < 1000
/-- a jump out of the code -/
def outJ (n : Nat) : PV → Bool
  | .con _ .tup [.str _, .int t] => decide ((n : Int) ≤ t)
  | _ => false
def tgtB (n : Nat) (v : PV) : Bool := match v with
  | .con _ .tup [.str s, .int t] => (decide (s ∈ c_JUMPS)) && decide ((n : Int) ≤ t)
  | _ => false
def lastB (v : PV) : Bool := match v with
  | .con _ .tup (.str s :: _) => decide (s ∈ c_LAST)
  | _ => false
/-- the error: its class, its tag, its index -/
def Vals.bad1 (V : Vals) (k : Nat) : Bool := !V.cb k
def Vals.bad2 (V : Vals) (k : Nat) : Bool := tgtB V.cs.length (V.cs.getD k .non)
def Vals.bad3 (V : Vals) (k : Nat) : Bool := decide (V.cs.length ≤ k) || (decide (V.ls.length ≤ k) || !V.lb k)
def Vals.bad4 (V : Vals) (k : Nat) : Bool := !V.hb k
def mx (i j : Nat) : Nat := if j > i then j else i
def Vals.err (V : Vals) : Option (Str × Str × Option Nat) :=
  if V.cs.length < 1 ∨ 200 < V.cs.length then some ("BadCode", "code", none) else
  match (List.range V.cs.length).find? V.bad1 with
  | some k => some ("BadInstruction", "instruction", some k)
  | none => match (List.range V.cs.length).find? V.bad2 with
    | some k => some ("BadTarget", "target", some k)
    | none => match (List.range (mx V.cs.length V.ls.length)).find? V.bad3 with
      | some k => some ("BadLine", "line", some k)
      | none => match (List.range V.hs.length).find? V.bad4 with
        | some k => some ("BadHandler", "handler", some k)
        | none => if lastB (V.cs.getD (V.cs.length - 1) .non) = true then none else some ("FallsOff", "falls", none)
def errX : Option (Str × Str × Option Nat) → RP
  | none => .ok .non
  | some (c, _, none) => .ex c []
  | some (c, _, some k) => .ex c [("index", .int k)]
def errV : Option (Str × Str × Option Nat) → PV
  | none => tu [.str "good", .int 0]
  | some (_, t, none) => tu [.str t, .int 0]
  | some (_, t, some k) => tu [.str t, .int k]
/-- how the program's check ends -/
def chkP (x : Option (Str × Str × Option Nat)) (r : RS) : Prop := match r with
  | .nx _ _ => errX x = .ok .non
  | .ex c fs _ _ => errX x = .ex c fs ∧ cleans (fs.map (·.2)) = true
  | _ => False
theorem chk_of {np n : Nat} {body : SF} {args : List PV} {x : Option (Str × Str × Option Nat)} (hl : args.length = np) (h : rsP (body (args.map some ++ List.replicate (n - args.length) none) []) (chkP x)) : runP np n body args = errX x := by
  unfold rsP at h
  rw [runP_eq hl]
  cases e : body (args.map some ++ List.replicate (n - args.length) none) [] with
  | nx Γ S => rw [e] at h; exact h.symm
  | ex c fs Γ S => rw [e] at h; rw [rupK_ex, if_pos h.2]; exact h.1.symm
  | _ => rw [e] at h; exact h.elim
theorem find_lt {n k : Nat} {p : Nat → Bool} (h : (List.range n).find? p = some k) : k < n ∧ p k = true := ⟨by simpa using List.mem_of_find?_eq_some h, List.find?_some h⟩
theorem lends_ok {S : Sto} : ∀ {vs : List PV}, (∀ v ∈ vs, clean v = true) → vs.mapM (lendV S) = some vs
  | [], _ => rfl
  | v :: vs, h => by
    rw [List.mapM_cons, lend_clean (h v (by simp)), lends_ok fun w hw => h w (by simp [hw])]
    rfl
theorem hv_clean {n : Nat} {v : PV} {b : Bool} (h : HV n v b) : clean v = true := by
  cases h with
  | num s e t d k b h => simp [tu, clean, cleans, kv_clean h]
  | odd v h =>
    simp only [oddH, List.mem_cons, List.not_mem_nil, or_false] at h
    rcases h with rfl | rfl | rfl | rfl | rfl <;> rfl
theorem cv_clean {v : PV} {b : Bool} (h : CV v b) : clean v = true := by
  cases h with
  | ok i g => exact clean_itr i
  | odd v h => exact (odd_fits h).2
section
variable (V : Vals) {m1 m2 m3 : Md} {k1 k2 k3 : Kd} (q1 : k1 = .lst ∨ k1 = .tup) (q2 : k2 = .lst ∨ k2 = .tup) (q3 : k3 = .lst ∨ k3 = .tup)
include q1 q2 q3
omit q1 q2 q3
abbrev Vals.g0 (V : Vals) (m1 m2 m3 : Md) (k1 k2 k3 : Kd) (x y z u : Option PV) : Gam := [some (.con m1 k1 V.cs), some (.con m2 k2 V.ls), some (.con m3 k3 V.hs), x, y, z, u]
theorem cv_ix {v : PV} {b : Bool} (h : CV v b) (hb : b = true) : ∃ i : Itr, i.good ∧ v = i.pv := by
  cases h with
  | ok i g => exact ⟨i, g, rfl⟩
  | odd v h => cases hb
theorem all_cs (h1 : (List.range V.cs.length).find? V.bad1 = none) {k : Nat} {v : PV} (hv : V.cs[k]? = some v) : ∃ i : Itr, i.good ∧ v = i.pv := by
  have hk := (List.getElem?_eq_some_iff.mp hv).1
  have := List.find?_eq_none.mp h1 k (by simpa using hk)
  exact cv_ix (V.hc k v hv) (by simpa [Vals.bad1] using this)
theorem getD_some {xs : List PV} {k : Nat} (h : k < xs.length) : xs[k]? = some (xs.getD k .non) := by
  rw [List.getElem?_eq_getElem h]; simp [List.getD, List.getElem?_eq_getElem h]
theorem lastB_pv (i : Itr) : lastB i.pv = i.last := by
  rw [← nm_last]
  cases i with
  | op o => cases o <;> rfl
  | _ => rfl
include q1 q2 q3
theorem chk_tail (x y z u : Option PV) (h0 : 1 ≤ V.cs.length ∧ V.cs.length ≤ 200) (h1 : (List.range V.cs.length).find? V.bad1 = none) (h2 : (List.range V.cs.length).find? V.bad2 = none) (h3 : (List.range (mx V.cs.length V.ls.length)).find? V.bad3 = none) (h4 : (List.range V.hs.length).find? V.bad4 = none) :
    rsP (r4_check_parts (V.g0 m1 m2 m3 k1 k2 k3 x y z u) []) (chkP V.err) := by
  have e : V.err = if lastB (V.cs.getD (V.cs.length - 1) .non) = true then none else some ((("FallsOff" : Str), ("falls" : Str), (none : Option Nat)) : Str × Str × Option Nat) := by
    unfold Vals.err
    rw [if_neg (by omega), h1, h2, h3, h4]
  have hv := getD_some (xs := V.cs) (k := V.cs.length - 1) (by omega)
  obtain ⟨i, g, hi⟩ := all_cs V h1 hv
  rw [hi] at e hv
  rw [lastB_pv] at e
  have at1 : L2.atI V.cs (-1) = some i.pv := by
    unfold L2.atI
    rw [show ixN V.cs.length (-1) = some (V.cs.length - 1) by unfold ixN; rw [if_neg (by omega), if_pos (by omega)]; congr 1; omega]
    exact hv
  unfold r4_check_parts
  wtm_at "ss"
  refine ⟨_, _, ixK q1 at1, ?_⟩
  wtm_at "ss"
  refine ⟨.str (nm i), [], by show (ixB _ i.pv (.int 0)).map _ = _; rw [nm_ix]; rfl, ?_⟩
  wtm_at "ss"
  rw [nm_last]
  cases hl : i.last with
  | true =>
    rw [hl, if_pos rfl] at e
    wtm_at "ss"
    show errX V.err = _
    rw [e]; rfl
  | false =>
    rw [hl, if_neg (by decide)] at e
    wtm_at "ss"
    show errX V.err = _ ∧ _
    rw [e]; exact ⟨rfl, rfl⟩
theorem chk_h (x y z u : Option PV) (h0 : 1 ≤ V.cs.length ∧ V.cs.length ≤ 200) (h1 : (List.range V.cs.length).find? V.bad1 = none) (h2 : (List.range V.cs.length).find? V.bad2 = none) (h3 : (List.range (mx V.cs.length V.ls.length)).find? V.bad3 = none) :
    rsP (r5_check_parts (V.g0 m1 m2 m3 k1 k2 k3 x y z u) []) (chkP V.err) := by
  unfold r5_check_parts
  refine Pv.W.seq (Pv.W.forE2 (Pv.W.var rfl ⟨_, _, _, (by assumption), rfl, ?_⟩))
  rw [enumF_range]
  refine Pv.W.find _ (fun Γ => ∃ x y z u, Γ = V.g0 m1 m2 m3 k1 k2 k3 x y z u) V.bad4 ⟨x, y, z, u, rfl⟩ ?_ ?_
  · rintro k hk Γ ⟨x, y, z, u, rfl⟩
    have hk : k < V.hs.length := by simpa using hk
    have hv := getD_some hk
    have hh := V.hh k _ hv
    unfold l3_check_parts
    wtm_at "ss"
    refine ⟨[V.hs.getD k .non, .int V.cs.length], _, lends_ok (by simp only [List.mem_cons, List.not_mem_nil, or_false, forall_eq_or_imp, forall_eq]; exact ⟨hv_clean hh, rfl⟩), hv_is hh, ?_⟩
    wtm_at "ss"
    unfold Vals.bad4
    cases hb : V.hb k with
    | true =>
      wtm_at "ss"
      exact ⟨_, rfl, _, _, _, _, rfl⟩
    | false =>
      wtm_at "ss"
      refine ⟨trivial, fun hf => ?_⟩
      have e : V.err = some ((("BadHandler" : Str), ("handler" : Str), some k) : Str × Str × Option Nat) := by
        unfold Vals.err
        rw [if_neg (by omega), h1, h2, h3]
        have : (List.range V.hs.length).find? V.bad4 = some k := hf
        rw [this]
      show errX V.err = _ ∧ _
      rw [e]; exact ⟨rfl, rfl⟩
  · rintro hf Γ ⟨x, y, z, u, rfl⟩
    exact Pv.W.go (chk_tail V q1 q2 q3 x y z u h0 h1 h2 h3 hf)
theorem chk_l (x y z u : Option PV) (h0 : 1 ≤ V.cs.length ∧ V.cs.length ≤ 200) (h1 : (List.range V.cs.length).find? V.bad1 = none) (h2 : (List.range V.cs.length).find? V.bad2 = none) :
    rsP (r6_check_parts (V.g0 m1 m2 m3 k1 k2 k3 x y z u) []) (chkP V.err) := by
  unfold r6_check_parts
  refine Pv.W.seq (Pv.W.forR ?_)
  wtm_at "ss"
  refine ⟨mx V.cs.length V.ls.length, ?_, ?_, ?_⟩
  · have : (fun i j : Int => if j > i then j else i) V.cs.length V.ls.length = (mx V.cs.length V.ls.length : Nat) := by
      show (if (V.ls.length : Int) > V.cs.length then (V.ls.length : Int) else V.cs.length) = _
      unfold mx; split <;> split <;> omega
    exact congrArg (fun x => [PV.int x]) this
  · have := V.nc; have := V.nl; unfold mx; split <;> omega
  refine Pv.W.find _ (fun Γ => ∃ x y z u, Γ = V.g0 m1 m2 m3 k1 k2 k3 x y z u) V.bad3 ⟨x, y, z, u, rfl⟩ ?_ ?_
  · rintro k hk Γ ⟨x, y, z, u, rfl⟩
    have bad : V.bad3 k = true → rsP (sRaise1 "BadLine" "index" (aCons (eV 3) aNil) (V.g0 m1 m2 m3 k1 k2 k3 (some (.int (k : Nat))) y z u) []) (fun q => if V.bad3 k = true then isOut q ∧ ((List.range (mx V.cs.length V.ls.length)).find? V.bad3 = some k → thenS r5_check_parts (chkP V.err) q) else ∃ Γ', q = .nx Γ' [] ∧ ∃ x y z u, Γ' = V.g0 m1 m2 m3 k1 k2 k3 x y z u) := fun hb => by
      rw [hb]
      wtm_at "ss"
      refine ⟨trivial, fun hf => ?_⟩
      have e : V.err = some ((("BadLine" : Str), ("line" : Str), some k) : Str × Str × Option Nat) := by
        unfold Vals.err
        rw [if_neg (by omega), h1, h2]
        have : (List.range (mx V.cs.length V.ls.length)).find? V.bad3 = some k := hf
        rw [this]
      show errX V.err = _ ∧ _
      rw [e]; exact ⟨rfl, rfl⟩
    unfold l2_check_parts
    wtm_at "ss"
    refine Pv.W.kD (fun c1 => Pv.W.kT (bad (by unfold Vals.bad3; rw [decide_eq_true (by omega)]; rfl))) fun c1 => ?_
    wtm_at "ss"
    refine Pv.W.kD (fun c2 => Pv.W.kT (bad (by unfold Vals.bad3; rw [decide_eq_true (p := V.ls.length ≤ k) (by omega)]; simp))) fun c2 => ?_
    have hk2 : k < V.ls.length := by omega
    have hv := getD_some hk2
    have hh := V.hl k _ hv
    wtm_at "ss"
    refine ⟨_, _, ixK q2 (by rw [atI_nat]; exact hv), ?_⟩
    wtm_at "ss"
    obtain ⟨l1, l2⟩ := lv_range hh
    refine ⟨[V.ls.getD k .non, .int 0, .int c_LINES], _, lends_ok (by simp only [List.mem_cons, List.not_mem_nil, or_false, forall_eq_or_imp, forall_eq]; exact ⟨l2, rfl, rfl⟩), l1, ?_⟩
    wtm_at "ss"
    cases hb : V.lb k with
    | false =>
      refine Pv.W.kT (bad ?_)
      unfold Vals.bad3; rw [hb]; simp
    | true =>
      have : V.bad3 k = false := by unfold Vals.bad3; rw [hb, decide_eq_false (by omega), decide_eq_false (by omega)]; rfl
      rw [this]
      wtm_at "ss"
      exact ⟨_, rfl, _, _, _, _, rfl⟩
  · rintro hf Γ ⟨x, y, z, u, rfl⟩
    exact Pv.W.go (chk_h V q1 q2 q3 x y z u h0 h1 h2 hf)
omit q1 q2 q3 in
theorem tgtB_pv (n : Nat) (i : Itr) : tgtB n i.pv = match i.tgt with
    | some t => decide (n ≤ t)
    | none => false := by
  cases i with
  | op o => cases o <;> rfl
  | c k => show (decide (("const" : Str) ∈ c_JUMPS) && decide ((n : Int) ≤ k)) = false; rw [jump_t.1]; rfl
  | jp t => show (decide (("jump" : Str) ∈ c_JUMPS) && decide ((n : Int) ≤ (t : Nat))) = decide (n ≤ t); rw [jump_t.2.2.2.2.1]; simp
  | ji t => show (decide (("jumpif" : Str) ∈ c_JUMPS) && decide ((n : Int) ≤ (t : Nat))) = decide (n ≤ t); rw [jump_t.2.2.2.2.2]; simp
  | _ => rfl
theorem chk_t (x y z u : Option PV) (h0 : 1 ≤ V.cs.length ∧ V.cs.length ≤ 200) (h1 : (List.range V.cs.length).find? V.bad1 = none) :
    rsP (r7_check_parts (V.g0 m1 m2 m3 k1 k2 k3 x y z u) []) (chkP V.err) := by
  unfold r7_check_parts
  refine Pv.W.seq (Pv.W.forE2 (Pv.W.var rfl ⟨_, _, _, (by assumption), rfl, ?_⟩))
  rw [enumF_range]
  refine Pv.W.find _ (fun Γ => ∃ x y z u, Γ = V.g0 m1 m2 m3 k1 k2 k3 x y z u) V.bad2 ⟨x, y, z, u, rfl⟩ ?_ ?_
  · rintro k hk Γ ⟨x, y, z, u, rfl⟩
    have hk : k < V.cs.length := by simpa using hk
    have hv := getD_some hk
    obtain ⟨i, g, hi⟩ := all_cs V h1 hv
    have tb := tgtB_pv V.cs.length i
    have hb2 : V.bad2 k = tgtB V.cs.length i.pv := by unfold Vals.bad2; rw [hi]
    rw [hi]
    unfold l1_check_parts
    wtm_at "ss"
    refine ⟨.str (nm i), [], by show (ixB _ i.pv (.int 0)).map _ = _; rw [nm_ix]; rfl, ?_⟩
    wtm_at "ss"
    rw [nm_jump]
    cases ht : i.tgt with
    | none =>
      rw [ht] at tb
      have tb : tgtB V.cs.length i.pv = false := tb
      rw [hb2, tb]
      wtm_at "ss"
      exact ⟨_, rfl, _, _, _, _, rfl⟩
    | some t =>
      rw [ht] at tb
      have tb : tgtB V.cs.length i.pv = decide (V.cs.length ≤ t) := tb
      rw [hb2, tb]
      wtm_at "ss"
      refine ⟨.int (t : Nat), [], by show (ixB _ i.pv (.int 1)).map _ = _; rw [tgt_ix ht]; rfl, ?_⟩
      wtm_at "ss"
      refine Pv.W.kD (fun c => ?_) fun c => ?_
      · rw [decide_eq_true (by omega)]
        wtm_at "ss"
        refine ⟨trivial, fun hf => ?_⟩
        have e : V.err = some ((("BadTarget" : Str), ("target" : Str), some k) : Str × Str × Option Nat) := by
          unfold Vals.err
          rw [if_neg (by omega), h1]
          have : (List.range V.cs.length).find? V.bad2 = some k := hf
          rw [this]
        show errX V.err = _ ∧ _
        rw [e]; exact ⟨rfl, rfl⟩
      · rw [decide_eq_false (by omega)]
        wtm_at "ss"
        exact ⟨_, rfl, _, _, _, _, rfl⟩
  · rintro hf Γ ⟨x, y, z, u, rfl⟩
    exact Pv.W.go (chk_l V q1 q2 q3 x y z u h0 h1 hf)
omit q1 q2 q3 in
theorem cv_fits {v : PV} {b : Bool} (h : CV v b) : f_fits_form [v] = .ok (.bl b) := by
  cases h with
  | ok i g => exact fits_ok i g
  | odd v h => exact (odd_fits h).1
theorem check_ok : f_check_parts [.con m1 k1 V.cs, .con m2 k2 V.ls, .con m3 k3 V.hs] = errX V.err := by
  refine chk_of rfl ?_
  show rsP (body_check_parts (V.g0 m1 m2 m3 k1 k2 k3 none none none none) []) _
  unfold body_check_parts
  have code : ¬ (1 ≤ V.cs.length ∧ V.cs.length ≤ 200) → V.err = some ((("BadCode" : Str), ("code" : Str), none) : Str × Str × Option Nat) := fun q => by
    unfold Vals.err; rw [if_pos (by omega)]
  wtm_at "ss"
  refine Pv.W.kD (fun c1 => ?_) fun c1 => ?_
  rotate_left
  · wtm_at "ss"
    show errX V.err = _ ∧ _
    rw [code (by omega)]; exact ⟨rfl, rfl⟩
  wtm_at "ss"
  refine Pv.W.kND (fun c2 => ?_) fun c2 => ?_
  · wtm_at "ss"
    show errX V.err = _ ∧ _
    unfold c_MOST at c2
    rw [code (by omega)]; exact ⟨rfl, rfl⟩
  unfold c_MOST at c2
  have h0 : 1 ≤ V.cs.length ∧ V.cs.length ≤ 200 := by omega
  wtm_at "ss"
  unfold r8_check_parts
  refine Pv.W.seq (Pv.W.forE2 (Pv.W.var rfl ⟨_, _, _, (by assumption), rfl, ?_⟩))
  rw [enumF_range]
  refine Pv.W.find _ (fun Γ => ∃ x y z u, Γ = V.g0 m1 m2 m3 k1 k2 k3 x y z u) V.bad1 ⟨none, none, none, none, rfl⟩ ?_ ?_
  · rintro k hk Γ ⟨x, y, z, u, rfl⟩
    have hk : k < V.cs.length := by simpa using hk
    have hv := getD_some hk
    have hh := V.hc k _ hv
    unfold l0_check_parts
    wtm_at "ss"
    refine ⟨[V.cs.getD k .non], _, lends_ok (by simp only [List.mem_cons, List.not_mem_nil, or_false, forall_eq]; exact cv_clean hh), cv_fits hh, ?_⟩
    wtm_at "ss"
    unfold Vals.bad1
    cases hb : V.cb k with
    | true =>
      wtm_at "ss"
      exact ⟨_, rfl, _, _, _, _, rfl⟩
    | false =>
      wtm_at "ss"
      refine ⟨trivial, fun hf => ?_⟩
      have e : V.err = some ((("BadInstruction" : Str), ("instruction" : Str), some k) : Str × Str × Option Nat) := by
        unfold Vals.err
        rw [if_neg (by omega)]
        have : (List.range V.cs.length).find? V.bad1 = some k := hf
        rw [this]
      show errX V.err = _ ∧ _
      rw [e]; exact ⟨rfl, rfl⟩
  · rintro hf Γ ⟨x, y, z, u, rfl⟩
    exact Pv.W.go (chk_t V q1 q2 q3 x y z u h0 hf)
end
end Law

/-! G22: all exits of a row in the worklist. -/
namespace Law
open PySem PySem.Spec PyProof.Rows L2 Pv
/-- the depths D agree at every row that they name -/
def ConsD (rows : List Rw) (hds : List Hnd) (D : Nat → Nat) : Prop := ∀ i r, rows[i]? = some r → r.i.rem ≤ D i ∧ ∀ x ∈ exits rows.length hds i r.i, (∀ h, x.2 = some h → h.d ≤ D i) ∧ wantd (D i - r.i.rem + r.i.push) x = D x.1
def TgtOk (rows : List Rw) (hds : List Hnd) : Prop := ∀ i r, rows[i]? = some r → ∀ x ∈ exits rows.length hds i r.i, x.1 < rows.length
/-- either a conflict is allowed, or there is none -/
def Fl (rows : List Rw) (hds : List Hnd) (D : Nat → Nat) (P : RS → Prop) (ds : List (Option Nat)) : Prop := (∀ Γ S, P (.ex "BadDepth" [] Γ S)) ∨ (ConsD rows hds D ∧ ∀ (j d : Nat), ds[j]? = some (some d) → d = D j)
def codeP (rows : List Rw) : PV := .con .own .tup (rows.map fun r => r.i.pv)
def hdsM (m : Md) (hds : List Hnd) : PV := .con m .tup (hds.map Hnd.pv)
abbrev hdsP (hds : List Hnd) : PV := hdsM .own hds
abbrev dG (m : Md) (rows : List Rw) (hds : List Hnd) (i dep : Nat) (w : Option PV) (aft : Nat) (y8 y9 y10 : Option PV) : Gam := [some (codeP rows), some (hdsM m hds), some (.ref 0), some (.ref 1), some (.int (i : Nat)), some (.int (dep : Nat)), w, some (.int (aft : Nat)), y8, y9, y10]
structure DJ (m : Md) (rows : List Rw) (hds : List Hnd) (D : Nat → Nat) (P : RS → Prop) (i dep : Nat) (w : Option PV) (aft c : Nat) (r : Itr) (rest : List (Nat × Option Hnd)) (Γ : Gam) (S : Sto) : Prop where
  ex : ∃ ds wt y8 y9 y10, Γ = dG m rows hds i dep w aft y8 y9 y10 ∧ S = dst ds wt ∧ DI rows.length ds wt ∧ cnt ds + wt.length = c ∧ Fl rows hds D P ds ∧ ds[i]? = some (some dep)
  mem : ∀ x ∈ rest, x ∈ exits rows.length hds i r
theorem clean_code (rows : List Rw) : clean (codeP rows) = true := by
  have cl : ∀ rs : List Rw, cleans (rs.map fun r => r.i.pv) = true := fun rs => by
    induction rs with
    | nil => rfl
    | cons a rs ih => simp only [List.map_cons, cleans, clean_itr, ih]; rfl
  exact cl rows
theorem clean_hp {m : Md} (hm : m ≠ .lent) (hds : List Hnd) : clean (hdsM m hds) = true := by
  have := cleans_hnds hds
  cases m <;> simp_all [hdsM, clean]
theorem dinner {m : Md} (hm : m ≠ .lent) {rows : List Rw} {hds : List Hnd} {D : Nat → Nat} {P : RS → Prop} {i : Nat} {r : Rw} {ds : List (Option Nat)} {wt : List Nat} {dep : Nat} {w y8 y9 y10 : Option PV} (hr : rows[i]? = some r) (hz : rows.length < 90000) (tg : TgtOk rows hds)
    (di : DI rows.length ds wt) (hc : cnt ds + wt.length < 95000) (hd : ds[i]? = some (some dep)) (fl : Fl rows hds D P ds)
    (k : ∀ ds' wt' y8 y9 y10, DI rows.length ds' wt' → cnt ds' + wt'.length = cnt ds + wt.length → Fl rows hds D P ds' → rsP (.nx (dG m rows hds i dep w (dep - r.i.rem + r.i.push) y8 y9 y10) (dst ds' wt')) P) :
    rsP (sFor (iAny (eCallP f_moves (aCons (eV 0) (aCons (eV 1) (aCons (eV 4) aNil))))) (gU [8, 9]) l3_depths_of (dG m rows hds i dep w (dep - r.i.rem + r.i.push) y8 y9 y10) (dst ds wt)) P := by
  refine Pv.W.forS (Pv.W.clP (Pv.W.cons (Pv.W.var rfl (Pv.W.cons (Pv.W.var rfl (Pv.W.cons (Pv.W.var rfl (Pv.W.nil ⟨[codeP rows, hdsM m hds, .int (i : Nat)], .con .own .lst ((exits rows.length hds i r.i).map exP), ?_, moves_okM hm rows hds i r hr (by omega), .own, _, Or.inl rfl, ?_⟩))))))))
  · simp only [List.mapM_cons, List.mapM_nil, lend_clean' (clean_code rows), lend_clean' (clean_hp hm hds)]
    rfl
  refine Pv.W.turns exP (fun _ rest Γ S => DJ m rows hds D P i dep w (dep - r.i.rem + r.i.push) (cnt ds + wt.length) r.i rest Γ S) ?_ ?_ ⟨⟨ds, wt, y8, y9, y10, rfl, rfl, di, rfl, fl, hd⟩, fun x h => h⟩
  · intro d x rest Γ S J
    obtain ⟨⟨ds', wt', z8, z9, z10, rfl, rfl, di', hc', fl', hd'⟩, hm⟩ := J
    have hx := hm x (List.mem_cons_self)
    have hlt : x.1 < ds'.length := by rw [di'.len]; exact tg i r hr x hx
    refine ⟨dG m rows hds i dep w (dep - r.i.rem + r.i.push) (some (.int x.1)) (some (hvP x.2)) z10, dst ds' wt', rfl, ?_⟩
    refine dturn (dep := dep) (aft := dep - r.i.rem + r.i.push) hlt (by omega) ?_ ?_
    · rcases fl' with q | ⟨q1, q2⟩
      · exact Or.inl q
      · refine Or.inr ?_
        obtain ⟨c1, c2⟩ := q1 i r hr
        obtain ⟨c3, c4⟩ := c2 x hx
        have e := q2 i dep hd'
        exact ⟨fun h hh => by rw [e]; exact c3 h hh, fun d hd => by rw [e, c4]; exact q2 _ _ hd⟩
    · rintro ds2 wt2 (⟨h1, rfl, rfl⟩ | ⟨h1, rfl, rfl⟩)
      · exact ⟨⟨_, _, _, _, _, rfl, rfl, di', hc', fl', hd'⟩, fun y hy => hm y (List.mem_cons_of_mem _ hy)⟩
      · refine ⟨⟨_, _, _, _, _, rfl, rfl, di'.put h1, ?_, ?_, ?_⟩, fun y hy => hm y (List.mem_cons_of_mem _ hy)⟩
        · have := cnt_set (v := wantd (dep - r.i.rem + r.i.push) x) h1
          rw [List.length_append, List.length_singleton]
          omega
        · rcases fl' with q | ⟨q1, q2⟩
          · exact Or.inl q
          · refine Or.inr ⟨q1, fun j d hj => ?_⟩
            by_cases e : j = x.1
            · subst e
              rw [List.getElem?_set_self hlt] at hj
              cases hj
              rw [q2 i dep hd']
              exact ((q1 i r hr).2 x hx).2
            · rw [List.getElem?_set_ne (Ne.symm e)] at hj
              exact q2 j d hj
        · rw [List.getElem?_set_ne]
          · exact hd'
          · intro e
            rw [e] at h1
            rw [h1] at hd'
            cases hd'
  · intro d Γ S J
    obtain ⟨⟨ds', wt', z8, z9, z10, rfl, rfl, di', hc', fl', hd'⟩, hm⟩ := J
    exact k ds' wt' z8 z9 z10 di' hc' fl'
end Law

/-! G23: depths_of. -/
namespace Law
open PySem PySem.Spec PyProof.Rows L2 Pv
abbrev dG0 (m : Md) (rows : List Rw) (hds : List Hnd) (y4 y5 y6 y7 y8 y9 y10 : Option PV) : Gam := [some (codeP rows), some (hdsM m hds), some (.ref 0), some (.ref 1), y4, y5, y6, y7, y8, y9, y10]
structure DW (m : Md) (rows : List Rw) (hds : List Hnd) (D : Nat → Nat) (P : RS → Prop) (c : Nat) (Γ : Gam) (S : Sto) : Prop where
  ex : ∃ ds wt y4 y5 y6 y7 y8 y9 y10, Γ = dG0 m rows hds y4 y5 y6 y7 y8 y9 y10 ∧ S = dst ds wt ∧ DI rows.length ds wt ∧ cnt ds + wt.length = c ∧ Fl rows hds D P ds
theorem DI.pop {n : Nat} {ds : List (Option Nat)} {wt : List Nat} {i : Nat} (h : DI n ds (wt ++ [i])) : DI n ds wt := ⟨h.len, fun j hj => h.w j (List.mem_append.mpr (Or.inl hj))⟩
theorem dbody {m : Md} (hm : m ≠ .lent) {rows : List Rw} {hds : List Hnd} {D : Nat → Nat} {P : RS → Prop} {ds : List (Option Nat)} {wt : List Nat} {i : Nat} {y4 y5 y6 y7 y8 y9 y10 : Option PV} (hz : rows.length < 90000) (tg : TgtOk rows hds)
    (di : DI rows.length ds (wt ++ [i])) (hc : cnt ds + wt.length < 95000) (fl : Fl rows hds D P ds)
    (k : ∀ ds' wt' y4 y5 y6 y7 y8 y9 y10, DI rows.length ds' wt' → cnt ds' + wt'.length = cnt ds + wt.length → Fl rows hds D P ds' → rsP (.nx (dG0 m rows hds y4 y5 y6 y7 y8 y9 y10) (dst ds' wt')) P) :
    rsP (l5_depths_of (dG0 m rows hds y4 y5 y6 y7 y8 y9 y10) (dst ds (wt ++ [i]))) P := by
  obtain ⟨dep, hd⟩ := di.w i (by simp)
  have hi : i < ds.length := (List.getElem?_eq_some_iff.mp hd).1
  have hir : i < rows.length := by rw [← di.len]; exact hi
  obtain ⟨r, hr⟩ : ∃ r, rows[i]? = some r := ⟨rows[i], List.getElem?_eq_getElem hir⟩
  unfold l5_depths_of
  wtm_at "s"
  wtm_at "s"
  wtm_at "s"
  wtm_at "s"
  refine ⟨rfl, Pv.W.nil ⟨.int (i : Nat), dst ds wt, ?_, ?_⟩⟩
  · show lstF _ _ _ _ = _
    unfold lstF
    simp
  wtm_at "ss"
  refine ⟨.int (dep : Nat), dst ds wt, ?_, ?_⟩
  · show (ixB (dst ds wt) (.ref 0) (.int (i : Nat))).map _ = _
    rw [ixB_ref (n := 0) (ps := ds.map okd) rfl, atI_nat, List.getElem?_map, hd]
    rfl
  wtm_at "ss"
  refine ⟨r.i.pv, dst ds wt, ?_, ?_⟩
  · show (L2.atI (rows.map fun r => r.i.pv) (i : Int)).map _ = _
    rw [atI_nat, List.getElem?_map, hr]
    rfl
  wtm_at "ss"
  refine ⟨.str (nm r.i), dst ds wt, by show (ixB _ r.i.pv (.int 0)).map _ = _; rw [nm_ix]; rfl, ?_⟩
  wtm_at "ss"
  refine ⟨(dep : Nat), (r.i.rem : Nat), rfl, rem_get r.i, ?_⟩
  wtm_at "ss"
  refine Pv.W.kD (fun c => ?_) fun c => ?_
  · wtm_at "ss"
    rcases fl with q | ⟨q1, q2⟩
    · exact q _ _
    · have := (q1 i r hr).1
      have := q2 i dep hd
      omega
  wtm_at "s"
  wtm_at "s"
  unfold r4_depths_of
  wtm_at "ss"
  rw [rem_get]
  refine ⟨_, _, rfl, ?_⟩
  wtm_at "ss"
  rw [push_get]
  refine ⟨_, _, rfl, ?_⟩
  wtm_at "s"
  have ea : ((dep : Int) - (r.i.rem : Nat) + (r.i.push : Nat)) = ((dep - r.i.rem + r.i.push : Nat) : Int) := by omega
  rw [ea]
  exact dinner hm hr hz tg di.pop hc hd fl fun ds' wt' z8 z9 z10 h1 h2 h3 => k ds' wt' _ _ _ _ z8 z9 z10 h1 h2 h3
theorem dloop {m : Md} (hm : m ≠ .lent) {rows : List Rw} {hds : List Hnd} {D : Nat → Nat} {P : RS → Prop} {ds : List (Option Nat)} {wt : List Nat} {y4 y5 y6 y7 y8 y9 y10 : Option PV} (hz : rows.length < 90000) (tg : TgtOk rows hds)
    (di : DI rows.length ds wt) (hc : cnt ds + wt.length < 95000) (fl : Fl rows hds D P ds)
    (k : ∀ ds' Γ, DI rows.length ds' [] → Fl rows hds D P ds' → Γ[2]? = some (some (.ref 0)) → rsP (.nx Γ (dst ds' [])) P) :
    rsP (sWhl (bT (eV 3)) l5_depths_of (dG0 m rows hds y4 y5 y6 y7 y8 y9 y10) (dst ds wt)) P := by
  refine Pv.W.whl (fun c Γ S => c < 95000 ∧ DW m rows hds D P c Γ S) ?_ ⟨hc, ⟨ds, wt, y4, y5, y6, y7, y8, y9, y10, rfl, rfl, di, rfl, fl⟩⟩ (by omega)
  rintro c Γ S ⟨hc, ⟨ds, wt, y4, y5, y6, y7, y8, y9, y10, rfl, rfl, di, e, fl⟩⟩
  wtm_at "ss"
  rcases List.eq_nil_or_concat wt with rfl | ⟨wt', i, rfl⟩
  · exact ⟨fun _ => k ds _ di fl rfl, fun h => by cases h⟩
  · rw [List.concat_eq_append] at di e ⊢
    refine ⟨fun h => by simp at h, fun _ => ?_⟩
    rw [List.length_append, List.length_singleton] at e
    refine dbody hm hz tg di (by omega) fl fun ds' wt' z4 z5 z6 z7 z8 z9 z10 h1 h2 h3 => ?_
    exact ⟨cnt ds' + wt'.length, by omega, by omega, ⟨ds', wt', z4, z5, z6, z7, z8, z9, z10, rfl, rfl, h1, rfl, h3⟩⟩
def ini (n : Nat) : List (Option Nat) := some 0 :: List.replicate (n - 1) none
theorem ini_len {n : Nat} (h : 1 ≤ n) : (ini n).length = n := by simp [ini]; omega
theorem ini_get {n j d : Nat} (h : (ini n)[j]? = some (some d)) : j = 0 ∧ d = 0 := by
  cases j with
  | zero => simp [ini] at h; exact ⟨rfl, h.symm⟩
  | succ j => simp [ini, List.getElem?_replicate] at h
theorem dwalk {m : Md} (hm : m ≠ .lent) {rows : List Rw} {hds : List Hnd} {D : Nat → Nat} {P : RS → Prop} (h1 : 1 ≤ rows.length) (h2 : rows.length < 90000) (tg : TgtOk rows hds) (fl : Fl rows hds D P (ini rows.length))
    (k : ∀ ds, ds.length = rows.length → Fl rows hds D P ds → P (.rt (.con .own .tup (ds.map okd)) (dst ds []))) :
    rsP (body_depths_of [some (codeP rows), some (hdsM m hds), none, none, none, none, none, none, none, none, none] []) P := by
  have hl : (rows.map fun r : Rw => r.i.pv).length = rows.length := List.length_map _
  have z : sizeLine = 16777216 := sizeLine_eq
  unfold body_depths_of
  have hmu : eOp (mulF true) (eLst false (aCons (eC .non) aNil)) (eCall lenF (aCons (eV 0) aNil)) [some (codeP rows), some (hdsM m hds), none, none, none, none, none, none, none, none, none] [] = .ok (.ref 0) [some (.lst, List.replicate rows.length .non)] := by
    have e : mulF true (.con .own .lst [.non]) (.int (rows.length : Nat)) [] = some (.ref 0, [some (.lst, List.replicate rows.length .non)]) := by
      unfold mulF
      simp only [derefH]
      rw [if_pos ⟨by omega, by omega, by simp; omega⟩]
      simp
    have e2 : eCall lenF (aCons (eV 0) aNil) [some (codeP rows), some (hdsM m hds), none, none, none, none, none, none, none, none, none] [] = .ok (.int (rows.length : Nat)) [] := by
      show R.ok (PV.int ((rows.map fun r : Rw => r.i.pv).length : Nat)) [] = _
      rw [hl]
    have e3 : eLst false (aCons (eC .non) aNil) [some (codeP rows), some (hdsM m hds), none, none, none, none, none, none, none, none, none] [] = .ok (.con .own .lst [.non]) [] := by
      simp [szl]
    rw [eOp_eq, e3, opK_ok, e2, opK2_ok, e, rof_some]
  wtm_at "s"
  wtm_at "s"
  rw [hmu]
  unfold okR
  dsimp only
  wtm_at "s"
  wtm_at "s"
  wtm_at "s"
  wtm_at "s"
  refine okR.of (v := [some (codeP rows), some (hdsM m hds), some (.ref 0), none, none, none, none, none, none, none, none]) (S := [some (.lst, (ini rows.length).map okd)]) ?_ ?_
  · rw [gSub_eq]
    simp only [eV_s, eV_0, subK_ok, eC_eq, subK2_ok, eV_1]
    rw [setLF_ref (n := 0) (ps := List.replicate rows.length .non) rfl]
    have : ixN (List.replicate rows.length PV.non).length 0 = some 0 := by unfold ixN; rw [if_pos (by omega), if_pos (by rw [List.length_replicate]; omega)]; rfl
    rw [this]
    obtain ⟨w, hw⟩ : ∃ w, rows.length = w + 1 := ⟨rows.length - 1, by omega⟩
    rw [hw]
    simp [ini, List.replicate_succ, okd]
  wtm_at "s"
  wtm_at "ss"
  refine dloop hm h2 tg (ds := ini rows.length) (wt := [0]) ⟨ini_len h1, fun i hi => by simp at hi; subst hi; exact ⟨0, by simp [ini]⟩⟩ (by have := List.countP_le_length (p := fun x : Option Nat => x.isNone) (l := ini rows.length); rw [ini_len h1] at this; show cnt _ + 1 < _; unfold cnt; omega) fl fun ds' Γ di fl' hΓ => ?_
  wtm_at "s"
  unfold r6_depths_of
  refine Pv.W.ret (Pv.W.call (Pv.W.cons (Pv.W.var hΓ (Pv.W.nil ⟨.con .own .tup (ds'.map okd), dst ds' [], rfl, ?_⟩))))
  exact k ds' di.len fl'
theorem cleans_okd : ∀ ds : List (Option Nat), cleans (ds.map okd) = true
  | [] => rfl
  | none :: ds => by simp only [List.map_cons, okd, cleans, cleans_okd ds]; rfl
  | some d :: ds => by simp only [List.map_cons, okd, cleans, cleans_okd ds]; rfl
def depP (ds : List (Option Nat)) : PV := .con .own .tup (ds.map okd)
/-- depths_of ends: with a tuple, or with BadDepth -/
theorem depths_anyM {m : Md} (hm : m ≠ .lent) {rows : List Rw} {hds : List Hnd} (h1 : 1 ≤ rows.length) (h2 : rows.length < 90000) (tg : TgtOk rows hds) :
    (∃ ds : List (Option Nat), ds.length = rows.length ∧ f_depths_of [codeP rows, hdsM m hds] = .ok (depP ds)) ∨ f_depths_of [codeP rows, hdsM m hds] = .ex "BadDepth" [] := by
  have h := dwalk hm (D := fun _ => 0) (P := fun r => rupK r = .ex "BadDepth" [] ∨ ∃ ds : List (Option Nat), ds.length = rows.length ∧ rupK r = .ok (depP ds)) h1 h2 tg (Or.inl fun Γ S => Or.inl (by rw [rupK_ex]; rfl)) fun ds hl _ => Or.inr ⟨ds, hl, by rw [rupK_rt]; exact resP_clean (cleans_okd ds)⟩
  have e : f_depths_of [codeP rows, hdsM m hds] = rupK (body_depths_of [some (codeP rows), some (hdsM m hds), none, none, none, none, none, none, none, none, none] []) := by
    unfold f_depths_of; rw [runP_eq (by rfl)]; rfl
  rw [e]
  rcases h with h | h
  · exact Or.inr h
  · exact Or.inl h
/-- with depths that agree there is no BadDepth -/
theorem depths_DM {m : Md} (hm : m ≠ .lent) {rows : List Rw} {hds : List Hnd} {D : Nat → Nat} (h1 : 1 ≤ rows.length) (h2 : rows.length < 90000) (tg : TgtOk rows hds) (hD : ConsD rows hds D) (h0 : D 0 = 0) :
    ∃ ds : List (Option Nat), ds.length = rows.length ∧ f_depths_of [codeP rows, hdsM m hds] = .ok (depP ds) ∧ ∀ j d, ds[j]? = some (some d) → d = D j := by
  have h := dwalk hm (D := D) (P := fun r => ∃ ds : List (Option Nat), ds.length = rows.length ∧ rupK r = .ok (depP ds) ∧ ∀ j d, ds[j]? = some (some d) → d = D j) h1 h2 tg (Or.inr ⟨hD, fun j d hj => by obtain ⟨rfl, rfl⟩ := ini_get hj; exact h0.symm⟩) fun ds hl fl => by
    rcases fl with q | ⟨_, q⟩
    · obtain ⟨ds', _, q, _⟩ := q [] []
      rw [rupK_ex] at q; cases q
    · exact ⟨ds, hl, by rw [rupK_rt]; exact resP_clean (cleans_okd ds), q⟩
  have e : f_depths_of [codeP rows, hdsM m hds] = rupK (body_depths_of [some (codeP rows), some (hdsM m hds), none, none, none, none, none, none, none, none, none] []) := by
    unfold f_depths_of; rw [runP_eq (by rfl)]; rfl
  rw [e]
  exact h
theorem depths_any {rows : List Rw} {hds : List Hnd} (h1 : 1 ≤ rows.length) (h2 : rows.length < 90000) (tg : TgtOk rows hds) :
    (∃ ds : List (Option Nat), ds.length = rows.length ∧ f_depths_of [codeP rows, hdsP hds] = .ok (depP ds)) ∨ f_depths_of [codeP rows, hdsP hds] = .ex "BadDepth" [] := depths_anyM (by decide) h1 h2 tg
end Law

/-! U4: Unit(..) of any parts. -/
namespace Law
open PySem PySem.Spec PyProof.Rows L2 Pv
def unitM (ml mh : Md) (cs ls hs : List PV) (d : PV) : PV := .con .own (.ins "Unit" ["code", "lines", "handlers", "found_depths"]) [.con .own .tup cs, .con ml .tup ls, .con mh .tup hs, d]
def tm (m : Md) (k : Kd) : Md := match k with
  | .tup => m
  | _ => .own
theorem tupK (S : Sto) {m : Md} {k : Kd} {xs : List PV} (h : k = .lst ∨ k = .tup) : tupleF [.con m k xs] S = some (.con (tm m k) .tup xs, S) := by
  rcases h with rfl | rfl <;> rfl
theorem cleans_of {xs : List PV} (h : ∀ (k : Nat) (v : PV), xs[k]? = some v → clean v = true) : cleans xs = true := by
  induction xs with
  | nil => rfl
  | cons x xs ih =>
    simp only [cleans, Bool.and_eq_true]
    exact ⟨h 0 x rfl, ih fun k v hk => h (k + 1) v (by simpa using hk)⟩
section
variable (V : Vals)
theorem Vals.cc : cleans V.cs = true := cleans_of fun k v h => cv_clean (V.hc k v h)
theorem Vals.cl : cleans V.ls = true := cleans_of fun k v h => (lv_range (V.hl k v h)).2
theorem Vals.ch : cleans V.hs = true := cleans_of fun k v h => hv_clean (V.hh k v h)
theorem list_of {α : Type} {f : α → PV} {xs : List PV} (h : ∀ (k : Nat) (v : PV), xs[k]? = some v → ∃ a, v = f a) : ∃ as : List α, xs = as.map f := by
  induction xs with
  | nil => exact ⟨[], rfl⟩
  | cons x xs ih =>
    obtain ⟨a, rfl⟩ := h 0 x rfl
    obtain ⟨as, rfl⟩ := ih fun k v hk => h (k + 1) v (by simpa using hk)
    exact ⟨a :: as, rfl⟩
theorem err_none (h : V.err = none) : (1 ≤ V.cs.length ∧ V.cs.length ≤ 200) ∧ (List.range V.cs.length).find? V.bad1 = none ∧ (List.range V.cs.length).find? V.bad2 = none ∧ (List.range V.hs.length).find? V.bad4 = none := by
  unfold Vals.err at h
  split at h
  · cases h
  rename_i h0
  split at h
  · cases h
  rename_i h1
  split at h
  · cases h
  rename_i h2
  split at h
  · cases h
  split at h
  · cases h
  rename_i h4
  exact ⟨by omega, h1, h2, h4⟩
/-- where nothing is wrong, the parts are rows and handlers -/
theorem rows_of (h : V.err = none) : ∃ (rows : List Rw) (hds : List Hnd), V.cs = rows.map (fun r => r.i.pv) ∧ V.hs = hds.map Hnd.pv ∧ TgtOk rows hds ∧ 1 ≤ rows.length ∧ rows.length ≤ 200 := by
  obtain ⟨h0, h1, h2, h4⟩ := err_none V h
  obtain ⟨rows, hr⟩ := list_of (f := fun r : Rw => r.i.pv) (xs := V.cs) fun k v hv => by
    obtain ⟨i, g, e⟩ := all_cs V h1 hv
    exact ⟨⟨i, 0⟩, e⟩
  have hn : V.cs.length = rows.length := by rw [hr, List.length_map]
  have hq : ∀ (k : Nat) (v : PV), V.hs[k]? = some v → ∃ a : { x : Hnd // x.t < V.cs.length }, v = a.1.pv := fun k v hv => by
    have hk := (List.getElem?_eq_some_iff.mp hv).1
    have hb : V.hb k = true := by
      have := List.find?_eq_none.mp h4 k (by simpa using hk)
      simpa [Vals.bad4] using this
    have hh := V.hh k v hv
    rw [hb] at hh
    generalize hw : true = w at hh
    cases hh with
    | num s e t d kk b hk =>
      obtain ⟨q, rfl⟩ : _ ∧ b = true := by
        have := hw.symm
        simpa only [Bool.and_eq_true, decide_eq_true_eq] using this
      cases hk with
      | ok o ho =>
        refine ⟨⟨⟨s.toNat, e.toNat, t.toNat, d.toNat, o⟩, by show t.toNat < _; omega⟩, ?_⟩
        show tu _ = PV.con _ _ [.int (s.toNat : Nat), .int (e.toNat : Nat), .int (t.toNat : Nat), .int (d.toNat : Nat), okP o]
        rw [Int.toNat_of_nonneg (by omega), Int.toNat_of_nonneg (by omega), Int.toNat_of_nonneg (by omega), Int.toNat_of_nonneg (by omega)]
        rfl
    | odd v h => cases hw
  obtain ⟨hs', hh⟩ := list_of hq
  refine ⟨rows, hs'.map (·.1), hr, by rw [hh, List.map_map]; rfl, ?_, by omega, by omega⟩
  intro i r hri x hx
  unfold exits at hx
  rcases List.mem_append.mp hx with hx | hx
  · rcases List.mem_append.mp hx with hx | hx
    · unfold exN at hx
      split at hx
      · rename_i c
        simp at hx; subst hx; exact c.2
      · simp at hx
    · unfold exJ at hx
      split at hx
      · rename_i t ht
        simp at hx; subst hx
        have hk : i < V.cs.length := by rw [hn]; exact (List.getElem?_eq_some_iff.mp hri).1
        have := List.find?_eq_none.mp h2 i (by simpa using hk)
        have e : V.cs.getD i .non = r.i.pv := by
          have := getD_some hk
          rw [hr, List.getElem?_map, hri] at this
          rw [hr]
          exact (Option.some.inj this).symm
        unfold Vals.bad2 at this
        rw [e, tgtB_pv, ht] at this
        have : ¬ (V.cs.length ≤ t) := by simpa using this
        show t < _
        omega
      · simp at hx
  · unfold exH at hx
    split at hx
    · split at hx
      · rename_i h hf
        simp at hx; subst hx
        have := List.mem_of_find?_eq_some hf
        obtain ⟨a, _, rfl⟩ := List.mem_map.mp this
        show a.1.t < _
        have := a.2
        omega
      · simp at hx
    · simp at hx
section
variable {m1 m2 m3 : Md} {k1 k2 k3 : Kd} (q1 : k1 = .lst ∨ k1 = .tup) (q2 : k2 = .lst ∨ k2 = .tup) (q3 : k3 = .lst ∨ k3 = .tup)
theorem mapM3 {S : Sto} {xs ys zs : List PV} (h1 : cleans xs = true) (h2 : cleans ys = true) (h3 : cleans zs = true) : [PV.con m1 k1 xs, .con m2 k2 ys, .con m3 k3 zs].mapM (lendV S) = some [.con m1 k1 xs, .con m2 k2 ys, .con m3 k3 zs] := by
  simp only [List.mapM_cons, List.mapM_nil, lendK h1, lendK h2, lendK h3]
  rfl
abbrev uG (V : Vals) (m1 m2 m3 : Md) (k1 k2 k3 : Kd) : Gam := [some (.ref 0), some (.con m1 k1 V.cs), some (.con m2 k2 V.ls), some (.con m3 k3 V.hs)]
theorem init_eq : i_Unit_init [.con m1 k1 V.cs, .con m2 k2 V.ls, .con m3 k3 V.hs] = match body_Unit_init (uG V m1 m2 m3 k1 k2 k3) [some (.ins "Unit" [], [])] with
    | .nx _ S => resP S (.ref 0)
    | .rt .non S => resP S (.ref 0)
    | .ex c fs _ S => if cleans (fs.map (·.2)) = true then .ex c fs else .bad
    | _ => .bad := rfl
include q1 q2 q3
theorem unit_x {x : Str × Str × Option Nat} (hv : V.err = some x) : i_Unit_init [.con m1 k1 V.cs, .con m2 k2 V.ls, .con m3 k3 V.hs] = errX (some x) := by
  have ck := check_ok V q1 q2 q3 (m1 := m1) (m2 := m2) (m3 := m3)
  obtain ⟨c, t, k⟩ := x
  rw [hv] at ck
  obtain ⟨fs, h1, h2⟩ : ∃ fs, errX (some (c, t, k)) = .ex c fs ∧ cleans (fs.map (·.2)) = true := by
    cases k with
    | none => exact ⟨[], rfl, rfl⟩
    | some k => exact ⟨_, rfl, rfl⟩
  rw [h1] at ck ⊢
  have : rsP (body_Unit_init (uG V m1 m2 m3 k1 k2 k3) [some (.ins "Unit" [], [])]) (fun r => ∃ Γ S, r = .ex c fs Γ S) := by
    unfold body_Unit_init
    wtm_at "s"
    refine Pv.W.exprX (cc := c) (fs := fs) ?_
    wtm_at "ss"
    exact ⟨_, mapM3 V.cc V.cl V.ch, ck, ⟨_, _, rfl⟩⟩
  obtain ⟨Γ, S, e⟩ := this
  rw [init_eq, e]
  show (if _ then _ else _) = _
  rw [if_pos h2]
variable (o1 : tm m1 k1 = .own) (o2 : tm m2 k2 ≠ .lent) (o3 : tm m3 k3 ≠ .lent)
include o1 o2 o3
theorem unit_dep0 (hv : V.err = none) {rows : List Rw} {hds : List Hnd} (hr : V.cs = rows.map (fun r => r.i.pv)) (hh : V.hs = hds.map Hnd.pv) :
    (∀ ds, f_depths_of [codeP rows, hdsM (tm m3 k3) hds] = .ok (depP ds) → i_Unit_init [.con m1 k1 V.cs, .con m2 k2 V.ls, .con m3 k3 V.hs] = .ok (unitM (tm m2 k2) (tm m3 k3) V.cs V.ls V.hs (depP ds))) ∧
    (f_depths_of [codeP rows, hdsM (tm m3 k3) hds] = .ex "BadDepth" [] → i_Unit_init [.con m1 k1 V.cs, .con m2 k2 V.ls, .con m3 k3 V.hs] = .ex "BadDepth" []) := by
  have ck := check_ok V q1 q2 q3 (m1 := m1) (m2 := m2) (m3 := m3)
  rw [hv] at ck
  have cp : codeP rows = .con .own .tup V.cs := by rw [hr]; rfl
  have hp : hdsM (tm m3 k3) hds = .con (tm m3 k3) .tup V.hs := by rw [hh]; rfl
  have l3 : ∀ S : Sto, [PV.con .own .tup V.cs, .con (tm m3 k3) .tup V.hs].mapM (lendV S) = some [.con .own .tup V.cs, .con (tm m3 k3) .tup V.hs] := fun S => by
    simp only [List.mapM_cons, List.mapM_nil, lendK V.cc, lendK V.ch]
    rfl
  refine ⟨?_, ?_⟩
  · rw [cp, hp]
    intro ds hd
    have : rsP (body_Unit_init (uG V m1 m2 m3 k1 k2 k3) [some (.ins "Unit" [], [])]) (fun r => ∃ Γ, r = .nx Γ [some (.ins "Unit" ["code", "lines", "handlers", "found_depths"], [.con .own .tup V.cs, .con (tm m2 k2) .tup V.ls, .con (tm m3 k3) .tup V.hs, depP ds])]) := by
      unfold body_Unit_init
      wtm_at "ss"
      refine ⟨_, _, mapM3 V.cc V.cl V.ch, ck, ?_⟩
      wtm_at "ss"
      refine ⟨_, _, tupK _ q1, ?_⟩
      rw [o1]
      wtm_at "ss"
      refine ⟨_, _, tupK _ q2, ?_⟩
      wtm_at "ss"
      refine ⟨_, _, tupK _ q3, ?_⟩
      wtm_at "ss"
      refine ⟨_, _, l3 _, hd, ?_⟩
      wtm_at "ss"
      exact ⟨_, rfl⟩
    obtain ⟨Γ, e⟩ := this
    rw [init_eq, e]
    refine resP_ref (n := 0) (k := .ins "Unit" ["code", "lines", "handlers", "found_depths"]) rfl ?_
    have c2 : clean (.con (tm m2 k2) .tup V.ls) = true := by
      revert o2; cases tm m2 k2 <;> simp [clean, V.cl]
    have c3 : clean (.con (tm m3 k3) .tup V.hs) = true := by
      revert o3; cases tm m3 k3 <;> simp [clean, V.ch]
    simp only [cleans, c2, c3]
    simp only [clean, V.cc, cleans_okd, depP]
    rfl
  · rw [cp, hp]
    intro hd
    have : rsP (body_Unit_init (uG V m1 m2 m3 k1 k2 k3) [some (.ins "Unit" [], [])]) (fun r => ∃ Γ S, r = .ex "BadDepth" [] Γ S) := by
      unfold body_Unit_init
      generalize h4 : sFldF ["Unit"] "found_depths" (eV 0) (eCallP f_depths_of (aCons (eFld ["Unit"] "code" (eV 0)) (aCons (eFld ["Unit"] "handlers" (eV 0)) aNil))) = s4
      wtm_at "ss"
      refine ⟨_, _, mapM3 V.cc V.cl V.ch, ck, ?_⟩
      wtm_at "ss"
      refine ⟨_, _, tupK _ q1, ?_⟩
      rw [o1]
      wtm_at "ss"
      refine ⟨_, _, tupK _ q2, ?_⟩
      wtm_at "ss"
      refine ⟨_, _, tupK _ q3, ?_⟩
      wtm_at "ss"
      rw [← h4]
      refine Pv.W.fldX (S1 := [some (.ins "Unit" ["code", "lines", "handlers"], [.con .own .tup V.cs, .con (tm m2 k2) .tup V.ls, .con (tm m3 k3) .tup V.hs])]) ?_ ⟨_, _, rfl⟩
      rw [eCallP_eq]
      have e1 : aCons (eFld ["Unit"] "code" (eV 0)) (aCons (eFld ["Unit"] "handlers" (eV 0)) aNil) (uG V m1 m2 m3 k1 k2 k3) [some (.ins "Unit" ["code", "lines", "handlers"], [.con .own .tup V.cs, .con (tm m2 k2) .tup V.ls, .con (tm m3 k3) .tup V.hs])] = .ok [.con .own .tup V.cs, .con (tm m3 k3) .tup V.hs] [some (.ins "Unit" ["code", "lines", "handlers"], [.con .own .tup V.cs, .con (tm m2 k2) .tup V.ls, .con (tm m3 k3) .tup V.hs])] := rfl
      refine Eq.trans (congrArg (calPK f_depths_of) e1) ?_
      rw [calPK_ok, l3, calPK2_some, hd, calPK3_ex]
    obtain ⟨Γ, S, e⟩ := this
    rw [init_eq, e]
    rfl
theorem unit_dep (hv : V.err = none) : ∃ (rows : List Rw) (hds : List Hnd), V.cs = rows.map (fun r => r.i.pv) ∧ V.hs = hds.map Hnd.pv ∧ TgtOk rows hds ∧ 1 ≤ rows.length ∧ rows.length ≤ 200 ∧
    (∀ ds, f_depths_of [codeP rows, hdsM (tm m3 k3) hds] = .ok (depP ds) → i_Unit_init [.con m1 k1 V.cs, .con m2 k2 V.ls, .con m3 k3 V.hs] = .ok (unitM (tm m2 k2) (tm m3 k3) V.cs V.ls V.hs (depP ds))) ∧
    (f_depths_of [codeP rows, hdsM (tm m3 k3) hds] = .ex "BadDepth" [] → i_Unit_init [.con m1 k1 V.cs, .con m2 k2 V.ls, .con m3 k3 V.hs] = .ex "BadDepth" []) := by
  obtain ⟨rows, hds, hr, hh, tg, l1, l2⟩ := rows_of V hv
  have q := unit_dep0 V q1 q2 q3 o1 o2 o3 hv hr hh
  exact ⟨rows, hds, hr, hh, tg, l1, l2, q.1, q.2⟩
/-- any parts: an error, or a unit -/
theorem unit_any : (∃ x, V.err = some x ∧ i_Unit_init [.con m1 k1 V.cs, .con m2 k2 V.ls, .con m3 k3 V.hs] = errX (some x)) ∨
    (V.err = none ∧ ((∃ ds, i_Unit_init [.con m1 k1 V.cs, .con m2 k2 V.ls, .con m3 k3 V.hs] = .ok (unitM (tm m2 k2) (tm m3 k3) V.cs V.ls V.hs (depP ds))) ∨ i_Unit_init [.con m1 k1 V.cs, .con m2 k2 V.ls, .con m3 k3 V.hs] = .ex "BadDepth" [])) := by
  cases hv : V.err with
  | some x => exact Or.inl ⟨x, rfl, unit_x V q1 q2 q3 hv⟩
  | none =>
    obtain ⟨rows, hds, hr, hh, tg, l1, l2, d1, d2⟩ := unit_dep V q1 q2 q3 o1 o2 o3 hv
    rcases depths_anyM o3 l1 (by omega) tg with ⟨ds, _, h⟩ | h
    · exact Or.inr ⟨rfl, Or.inl ⟨ds, d1 ds h⟩⟩
    · exact Or.inr ⟨rfl, Or.inr (d2 h)⟩
end
end
end Law

/-! U5: a small program is a unit. -/
namespace Law
open PySem PySem.Spec PyProof.Rows L2 Pv
/-- a program whose handlers are few and low -/
structure Small (rows : List Rw) (hds : List Hnd) : Prop where
  pr : Prog rows hds
  few : hds.length ≤ rows.length
  low : ∀ x ∈ hds, x.d ≤ 200
section
variable {rows : List Rw} {hds : List Hnd}
def pvs (rows : List Rw) : List PV := rows.map fun r => r.i.pv
def lns (rows : List Rw) : List PV := rows.map fun r => .int r.l
def hvs (hds : List Hnd) : List PV := hds.map Hnd.pv
theorem Small.row (s : Small rows hds) {i : Nat} {r : Rw} (h : rows[i]? = some r) : r.good := by
  obtain ⟨D, _, sg⟩ := s.pr.dep
  exact (sg.row i r h).good
theorem Small.hnd (s : Small rows hds) {x : Hnd} (h : x ∈ hds) : x.good ∧ x.s < x.e ∧ x.e < rows.length ∧ x.t < rows.length := by
  obtain ⟨D, _, sg⟩ := s.pr.dep
  have := sg.hd x h
  have := s.pr.pos
  exact ⟨(sg.hd x h).good, (sg.hd x h).se, by have := (sg.hd x h).e1; omega, by have := (sg.hd x h).t1; omega⟩
theorem Small.kv (s : Small rows hds) {x : Hnd} (h : x ∈ hds) : KV (okP x.k) true := by
  exact .ok x.k (s.hnd h).1
def Small.vals (s : Small rows hds) : Vals where
  cs := pvs rows
  ls := lns rows
  hs := hvs hds
  cb := fun _ => true
  lb := fun _ => true
  hb := fun _ => true
  hc := fun k v h => by
    unfold pvs at h
    rw [List.getElem?_map] at h
    obtain ⟨r, hr, rfl⟩ := Option.map_eq_some_iff.mp h
    exact .ok r.i (s.row hr).1
  hl := fun k v h => by
    unfold lns at h
    rw [List.getElem?_map] at h
    obtain ⟨r, hr, rfl⟩ := Option.map_eq_some_iff.mp h
    exact .ok r.l (s.row hr).2
  hh := fun k v h => by
    unfold hvs at h
    rw [List.getElem?_map] at h
    obtain ⟨x, hx, rfl⟩ := Option.map_eq_some_iff.mp h
    have hm := List.mem_of_getElem? hx
    obtain ⟨g, h1, h2, h3⟩ := s.hnd hm
    have h4 := s.low x hm
    have q := HV.num (n := (pvs rows).length) (x.s : Int) (x.e : Int) (x.t : Int) (x.d : Int) (okP x.k) true (s.kv hm)
    have e : (decide ((0 ≤ (x.s : Int) ∧ (x.s : Int) < x.e ∧ (x.e : Int) ≤ ((pvs rows).length : Nat)) ∧ (0 ≤ (x.t : Int) ∧ (x.t : Int) < ((pvs rows).length : Nat)) ∧ (0 ≤ (x.d : Int) ∧ (x.d : Int) ≤ 200)) && true) = true := by
      rw [Bool.and_true]
      have : (pvs rows).length = rows.length := List.length_map _
      rw [this]
      exact decide_eq_true ⟨⟨by omega, by omega, by omega⟩, ⟨by omega, by omega⟩, by omega, by omega⟩
    rw [e] at q
    exact q
  nc := by have := s.pr.len; show (rows.map _).length < _; rw [List.length_map]; omega
  nl := by have := s.pr.len; show (rows.map _).length < _; rw [List.length_map]; omega
  nh := by have := s.pr.len; have := s.few; show (hds.map _).length < _; rw [List.length_map]; omega
theorem Small.err (s : Small rows hds) : s.vals.err = none := by
  have n1 : s.vals.cs.length = rows.length := List.length_map _
  have n2 : s.vals.ls.length = rows.length := List.length_map _
  have p1 := s.pr.len
  have p2 := s.pr.pos
  have f1 : (List.range s.vals.cs.length).find? s.vals.bad1 = none := List.find?_eq_none.mpr fun k _ => by simp [Vals.bad1, Small.vals]
  have f4 : (List.range s.vals.hs.length).find? s.vals.bad4 = none := List.find?_eq_none.mpr fun k _ => by simp [Vals.bad4, Small.vals]
  have f3 : (List.range (mx s.vals.cs.length s.vals.ls.length)).find? s.vals.bad3 = none := List.find?_eq_none.mpr fun k hk => by
    have hk : k < mx s.vals.cs.length s.vals.ls.length := by simpa using hk
    unfold mx at hk
    rw [n1, n2] at hk
    simp only [Nat.lt_irrefl, gt_iff_lt, if_false] at hk
    unfold Vals.bad3
    rw [n1, n2, decide_eq_false (by omega)]
    simp [Small.vals]
  have at_ : ∀ (k : Nat) (r : Rw), rows[k]? = some r → s.vals.cs.getD k .non = r.i.pv := fun k r hr => by
    have : s.vals.cs[k]? = some r.i.pv := by show (rows.map _)[k]? = _; rw [List.getElem?_map, hr]; rfl
    simp [List.getD, this]
  have f2 : (List.range s.vals.cs.length).find? s.vals.bad2 = none := List.find?_eq_none.mpr fun k hk => by
    have hk : k < rows.length := by rw [← n1]; simpa using hk
    obtain ⟨r, hr⟩ : ∃ r, rows[k]? = some r := ⟨rows[k], List.getElem?_eq_getElem hk⟩
    unfold Vals.bad2
    rw [at_ k r hr, tgtB_pv, n1]
    obtain ⟨D, _, sg⟩ := s.pr.dep
    cases ht : r.i.tgt with
    | none => simp
    | some t =>
      have := ((sg.row k r hr).tgt t ht).2.1
      simp
      omega
  obtain ⟨r, hr, hl⟩ := s.pr.last
  unfold Vals.err
  rw [if_neg (by omega), f1, f2, f3, f4]
  show (if lastB (s.vals.cs.getD (s.vals.cs.length - 1) .non) = true then none else _) = none
  rw [n1, at_ _ r hr, lastB_pv, hl, if_pos rfl]
theorem Small.cons (s : Small rows hds) : ∃ D : Nat → Nat, D 0 = 0 ∧ ConsD rows hds D := by
  obtain ⟨D, d0, sg⟩ := s.pr.dep
  refine ⟨D, d0, fun i r hr => ⟨by have := (sg.row i r hr).rem; rwa [Nat.zero_add] at this, fun x hx => ?_⟩⟩
  have rk := sg.row i r hr
  rw [Nat.zero_add] at rk
  unfold exits at hx
  rcases List.mem_append.mp hx with hx | hx
  · rcases List.mem_append.mp hx with hx | hx
    · unfold exN at hx
      split at hx
      · rename_i c
        simp at hx; subst hx
        exact ⟨fun h e => (by cases e), (rk.nxt c.1).symm⟩
      · simp at hx
    · unfold exJ at hx
      split at hx
      · rename_i t ht
        simp at hx; subst hx
        exact ⟨fun h e => (by cases e), (rk.tgt t ht).2.2.symm⟩
      · simp at hx
  · unfold exH at hx
    split at hx
    · rename_i k hk
      split at hx
      · rename_i h hf
        simp at hx; subst hx
        have hm := List.mem_of_find?_eq_some hf
        have hp := List.find?_some hf
        have hd := sg.hd h hm
        unfold rcv at hp
        simp only [Bool.and_eq_true, decide_eq_true_eq] at hp
        refine ⟨fun h' e => ?_, hd.dt.symm⟩
        cases e
        exact hd.cov i hp.1.1 hp.1.2
      · simp at hx
    · simp at hx
theorem Small.tgt (s : Small rows hds) : TgtOk rows hds := by
  obtain ⟨D, d0, sg⟩ := s.pr.dep
  have := s.pr.pos
  intro i r hr x hx
  have rk := sg.row i r hr
  unfold exits at hx
  rcases List.mem_append.mp hx with hx | hx
  · rcases List.mem_append.mp hx with hx | hx
    · unfold exN at hx
      split at hx
      · rename_i c
        simp at hx; subst hx
        exact c.2
      · simp at hx
    · unfold exJ at hx
      split at hx
      · rename_i t ht
        simp at hx; subst hx
        have := (rk.tgt t ht).2.1
        show t < _
        omega
      · simp at hx
  · unfold exH at hx
    split at hx
    · split at hx
      · rename_i h hf
        simp at hx; subst hx
        have hd := (sg.hd h (List.mem_of_find?_eq_some hf)).t1
        show h.t < _
        omega
      · simp at hx
    · simp at hx
/-- the unit of a small program -/
theorem Small.unit (s : Small rows hds) {m1 m2 m3 : Md} {k1 k2 k3 : Kd} (q1 : k1 = .lst ∨ k1 = .tup) (q2 : k2 = .lst ∨ k2 = .tup) (q3 : k3 = .lst ∨ k3 = .tup) (o1 : tm m1 k1 = .own) (o2 : tm m2 k2 ≠ .lent) (o3 : tm m3 k3 ≠ .lent) :
    ∃ (D : Nat → Nat) (ds : List (Option Nat)), D 0 = 0 ∧ ConsD rows hds D ∧ ds.length = rows.length ∧ (∀ j d, ds[j]? = some (some d) → d = D j) ∧ f_depths_of [codeP rows, hdsM (tm m3 k3) hds] = .ok (depP ds) ∧
      i_Unit_init [.con m1 k1 (pvs rows), .con m2 k2 (lns rows), .con m3 k3 (hvs hds)] = .ok (unitM (tm m2 k2) (tm m3 k3) (pvs rows) (lns rows) (hvs hds) (depP ds)) := by
  obtain ⟨D, d0, cd⟩ := s.cons
  obtain ⟨ds, hl, hd, hD⟩ := depths_DM o3 s.pr.pos (by have := s.pr.len; omega) s.tgt cd d0
  exact ⟨D, ds, d0, cd, hl, hD, hd, (unit_dep0 s.vals q1 q2 q3 o1 o2 o3 s.err rfl rfl).1 ds hd⟩
end
end Law

namespace Law
open PySem PySem.Spec PyProof.Rows L2 Pv
/-! law_like: the same data -/
mutual
def same : PV → PV → Bool
  | .non, .non => true
  | .bl a, .bl b => decide (a = b)
  | .int a, .int b => decide (a = b)
  | .str a, .str b => decide (a = b)
  | .con _ .tup xs, .con _ .tup ys => sames xs ys
  | .con _ .lst xs, .con _ .lst ys => sames xs ys
  | _, _ => false
def sames : List PV → List PV → Bool
  | [], [] => true
  | x :: xs, y :: ys => same x y && sames xs ys
  | _, _ => false
end
mutual
/-- data of depth n at most -/
def dat : Nat → PV → Prop
  | _, .non => True
  | _, .bl _ => True
  | _, .int _ => True
  | _, .str _ => True
  | n + 1, .con m k xs => (k = .tup ∨ k = .lst) ∧ m ≠ .lent ∧ xs.length < 1000000000 ∧ dats n xs
  | _, _ => False
def dats : Nat → List PV → Prop
  | _, [] => True
  | n, x :: xs => dat n x ∧ dats n xs
end
mutual
theorem dat_clean : ∀ {n : Nat} {p : PV}, dat n p → clean p = true
  | _, .non, _ => rfl
  | _, .bl _, _ => rfl
  | _, .int _, _ => rfl
  | _, .str _, _ => rfl
  | n + 1, .con m k xs, h => by
    simp only [dat] at h
    have := dats_clean h.2.2.2
    cases m <;> simp_all [clean]
  | 0, .con m k xs, h => by simp [dat] at h
  | n, .ref _, h => by cases n <;> simp [dat] at h
  | n, .fn _, h => by cases n <;> simp [dat] at h
  | n, .ty _, h => by cases n <;> simp [dat] at h
theorem dats_clean : ∀ {n : Nat} {ps : List PV}, dats n ps → cleans ps = true
  | _, [], _ => rfl
  | n, x :: xs, h => by
    simp only [dats] at h
    simp only [cleans, dat_clean h.1, dats_clean h.2, Bool.and_self]
end
theorem dats_get {n : Nat} : ∀ {xs : List PV} {i : Nat} {p : PV}, dats n xs → xs[i]? = some p → dat n p
  | [], _, _, _, e => by simp at e
  | x :: xs, i, p, h, e => by
    simp only [dats] at h
    cases i with
    | zero => simp at e; subst e; exact h.1
    | succ i => exact dats_get h.2 (by simpa using e)
theorem sames_len : ∀ {xs ys : List PV}, sames xs ys = true → xs.length = ys.length
  | [], [], _ => rfl
  | [], _ :: _, h => by simp [sames] at h
  | _ :: _, [], h => by simp [sames] at h
  | x :: xs, y :: ys, h => by
    simp only [sames, Bool.and_eq_true] at h
    simp [sames_len h.2]
theorem sames_drop {xs ys : List PV} {i : Nat} {x y : PV} (hx : xs[i]? = some x) (hy : ys[i]? = some y) : sames (xs.drop i) (ys.drop i) = (same x y && sames (xs.drop (i + 1)) (ys.drop (i + 1))) := by
  obtain ⟨a, e1⟩ := List.getElem?_eq_some_iff.mp hx
  obtain ⟨b, e2⟩ := List.getElem?_eq_some_iff.mp hy
  rw [List.drop_eq_getElem_cons a, List.drop_eq_getElem_cons b, e1, e2]
  rfl
end Law

namespace Law
open PySem PySem.Spec PyProof.Rows L2 Pv
/-! == of data -/
theorem beq_str (a b : Str) : (a == b) = decide (a = b) := by
  by_cases e : a = b
  · subst e; simp
  · have : (a == b) = false := Bool.eq_false_iff.mpr fun h => e (eq_of_beq h)
    simp [e, this]
mutual
def pd : PV → PyData
  | .bl b => .bool b
  | .int i => .int i
  | .str s => .str s
  | .con _ .tup xs => .tuple (pds xs)
  | .con _ .lst xs => .list (pds xs)
  | _ => .none
def pds : List PV → List PyData
  | [] => []
  | x :: xs => pd x :: pds xs
end
mutual
theorem toPD_dat {S : Sto} : ∀ (n : Nat) (p : PV) (k : Nat), dat n p → n < k → toPD k S p = some (pd p)
  | n, .non, k, _, h => by cases k <;> first | omega | rfl
  | n, .bl _, k, _, h => by cases k <;> first | omega | rfl
  | n, .int _, k, _, h => by cases k <;> first | omega | rfl
  | n, .str _, k, _, h => by cases k <;> first | omega | rfl
  | 0, .con _ _ _, k, h, _ => by simp [dat] at h
  | n, .ref _, k, h, _ => by cases n <;> simp [dat] at h
  | n, .fn _, k, h, _ => by cases n <;> simp [dat] at h
  | n, .ty _, k, h, _ => by cases n <;> simp [dat] at h
  | n + 1, .con m kd xs, k, h, hk => by
    obtain ⟨j, rfl⟩ : ∃ j, k = j + 1 := ⟨k - 1, by omega⟩
    simp only [dat] at h
    have := toPDs_dat (S := S) n xs j h.2.2.2 (by omega)
    rcases h.1 with rfl | rfl <;> simp [toPD, this, pd]
theorem toPDs_dat {S : Sto} : ∀ (n : Nat) (ps : List PV) (k : Nat), dats n ps → n < k → ps.mapM (toPD k S) = some (pds ps)
  | n, [], k, _, _ => rfl
  | n, x :: xs, k, h, hk => by
    simp only [dats] at h
    simp [List.mapM_cons, toPD_dat (S := S) n x k h.1 hk, toPDs_dat (S := S) n xs k h.2 hk, pds]
end
def eqq (p q : PV) : Bool := PyData.eqv (pd p) (pd q)
theorem eqB_dat {S : Sto} {n m : Nat} {p q : PV} (h : dat n p) (k : dat m q) (hn : n ≤ 8) (hm : m ≤ 8) : eqB S p q = some (eqq p q) := by
  have e1 := toPD_dat (S := S) n p 9 h (by omega)
  have e2 := toPD_dat (S := S) m q 9 k (by omega)
  unfold eqB eqq
  split
  · simp [pd, PyData.eqv, Bool.beq_eq_decide_eq]
  · simp [pd, PyData.eqv, beq_str]
  · rfl
  · simp [pd, PyData.eqv, Bool.beq_eq_decide_eq]
  · simp only [e1, e2]
theorem eqF_dat {S : Sto} {n m : Nat} {p q : PV} (h : dat n p) (k : dat m q) (hn : n ≤ 8) (hm : m ≤ 8) : eqF p q S = some (.bl (eqq p q), S) := by
  unfold eqF; rw [eqB_dat h k hn hm]; rfl
theorem neF_dat {S : Sto} {n m : Nat} {p q : PV} (h : dat n p) (k : dat m q) (hn : n ≤ 8) (hm : m ≤ 8) : neF p q S = some (.bl (!eqq p q), S) := by
  unfold neF; rw [eqB_dat h k hn hm]; rfl
mutual
/-- the same data are equal -/
theorem eqq_same : ∀ {p q : PV}, same p q = true → eqq p q = true
  | .non, q, h => by cases q <;> simp [same] at h; rfl
  | .bl a, q, h => by
    cases q <;> simp [same] at h
    subst h; simp [eqq, pd, PyData.eqv]
  | .int a, q, h => by
    cases q <;> simp [same] at h
    subst h; simp [eqq, pd, PyData.eqv]
  | .str a, q, h => by
    cases q <;> simp [same] at h
    subst h; simp [eqq, pd, PyData.eqv]
  | .con m k xs, q, h => by
    cases q with
    | con m' k' ys =>
      cases k <;> cases k' <;> simp [same] at h
      · have := eqqs_same h; simpa [eqq, pd, PyData.eqv] using this
      · have := eqqs_same h; simpa [eqq, pd, PyData.eqv] using this
    | _ => cases k <;> simp [same] at h
  | .ref _, q, h => by cases q <;> simp [same] at h
  | .fn _, q, h => by cases q <;> simp [same] at h
  | .ty _, q, h => by cases q <;> simp [same] at h
theorem eqqs_same : ∀ {xs ys : List PV}, sames xs ys = true → PyData.eqvAll (pds xs) (pds ys) = true
  | [], [], _ => rfl
  | [], _ :: _, h => by simp [sames] at h
  | _ :: _, [], h => by simp [sames] at h
  | x :: xs, y :: ys, h => by
    simp only [sames, Bool.and_eq_true] at h
    have h1 := eqq_same h.1
    have h2 := eqqs_same h.2
    unfold eqq at h1
    simp [pds, PyData.eqvAll, h1, h2]
end
mutual
/-- without truth values -/
def nb : PV → Bool
  | .bl _ => false
  | .con _ _ xs => nbs xs
  | _ => true
def nbs : List PV → Bool
  | [] => true
  | x :: xs => nb x && nbs xs
end
mutual
theorem same_eqq : ∀ {n m : Nat} {p q : PV}, dat n p → dat m q → nb p = true → nb q = true → eqq p q = true → same p q = true
  | n, m, .non, q, hp, hq, _, bq, h => by
    cases q with
    | con _ k _ => cases m <;> simp [dat] at hq; rcases hq.1 with rfl | rfl <;> simp [eqq, pd, PyData.eqv] at h
    | ref _ => cases m <;> simp [dat] at hq
    | fn _ => cases m <;> simp [dat] at hq
    | ty _ => cases m <;> simp [dat] at hq
    | _ => simp_all [eqq, pd, PyData.eqv, same, nb]
  | n, m, .int a, q, hp, hq, _, bq, h => by
    cases q with
    | con _ k _ => cases m <;> simp [dat] at hq; rcases hq.1 with rfl | rfl <;> simp [eqq, pd, PyData.eqv] at h
    | ref _ => cases m <;> simp [dat] at hq
    | fn _ => cases m <;> simp [dat] at hq
    | ty _ => cases m <;> simp [dat] at hq
    | _ => simp_all [eqq, pd, PyData.eqv, same, nb]
  | n, m, .str a, q, hp, hq, _, bq, h => by
    cases q with
    | con _ k _ => cases m <;> simp [dat] at hq; rcases hq.1 with rfl | rfl <;> simp [eqq, pd, PyData.eqv] at h
    | ref _ => cases m <;> simp [dat] at hq
    | fn _ => cases m <;> simp [dat] at hq
    | ty _ => cases m <;> simp [dat] at hq
    | _ => simp_all [eqq, pd, PyData.eqv, same, nb]
  | n, m, .bl a, q, hp, hq, bp, bq, h => by simp [nb] at bp
  | n, m, .ref _, q, hp, hq, bp, bq, h => by cases n <;> simp [dat] at hp
  | n, m, .fn _, q, hp, hq, bp, bq, h => by cases n <;> simp [dat] at hp
  | n, m, .ty _, q, hp, hq, bp, bq, h => by cases n <;> simp [dat] at hp
  | 0, m, .con _ _ _, q, hp, hq, bp, bq, h => by simp [dat] at hp
  | n + 1, m, .con md k xs, q, hp, hq, bp, bq, h => by
    simp only [dat] at hp
    simp only [nb] at bp
    cases q with
    | con md' k' ys =>
      cases m with
      | zero => simp [dat] at hq
      | succ m =>
        simp only [dat] at hq
        simp only [nb] at bq
        rcases hp.1 with rfl | rfl <;> rcases hq.1 with rfl | rfl
        · simp only [eqq, pd, PyData.eqv] at h
          simp only [same]
          exact sames_eqq hp.2.2.2 hq.2.2.2 bp bq h
        · simp [eqq, pd, PyData.eqv] at h
        · simp [eqq, pd, PyData.eqv] at h
        · simp only [eqq, pd, PyData.eqv] at h
          simp only [same]
          exact sames_eqq hp.2.2.2 hq.2.2.2 bp bq h
    | ref _ => cases m <;> simp [dat] at hq
    | fn _ => cases m <;> simp [dat] at hq
    | ty _ => cases m <;> simp [dat] at hq
    | _ => rcases hp.1 with rfl | rfl <;> simp [eqq, pd, PyData.eqv] at h
theorem sames_eqq : ∀ {n m : Nat} {xs ys : List PV}, dats n xs → dats m ys → nbs xs = true → nbs ys = true → PyData.eqvAll (pds xs) (pds ys) = true → sames xs ys = true
  | n, m, [], [], _, _, _, _, _ => rfl
  | n, m, [], _ :: _, _, _, _, _, h => by simp [pds, PyData.eqvAll] at h
  | n, m, _ :: _, [], _, _, _, _, h => by simp [pds, PyData.eqvAll] at h
  | n, m, x :: xs, y :: ys, hp, hq, bp, bq, h => by
    simp only [dats] at hp hq
    simp only [nbs, Bool.and_eq_true] at bp bq
    simp only [pds, PyData.eqvAll, Bool.and_eq_true] at h
    simp only [sames, Bool.and_eq_true]
    exact ⟨same_eqq hp.1 hq.1 bp.1 bq.1 h.1, sames_eqq hp.2 hq.2 bp.2 bq.2 h.2⟩
end
theorem eqq_nb {n m : Nat} {p q : PV} (hp : dat n p) (hq : dat m q) (bp : nb p = true) (bq : nb q = true) : eqq p q = same p q := by
  cases h : same p q with
  | true => exact eqq_same h
  | false =>
    cases k : eqq p q with
    | false => rfl
    | true => rw [same_eqq hp hq bp bq k] at h; cases h
mutual
theorem same_refl : ∀ {n : Nat} {p : PV}, dat n p → same p p = true
  | _, .non, _ => rfl
  | _, .bl _, _ => by simp [same]
  | _, .int _, _ => by simp [same]
  | _, .str _, _ => by simp [same]
  | n + 1, .con m k xs, h => by
    simp only [dat] at h
    rcases h.1 with rfl | rfl <;> (simp only [same]; exact sames_refl h.2.2.2)
  | 0, .con m k xs, h => by simp [dat] at h
  | n, .ref _, h => by cases n <;> simp [dat] at h
  | n, .fn _, h => by cases n <;> simp [dat] at h
  | n, .ty _, h => by cases n <;> simp [dat] at h
theorem sames_refl : ∀ {n : Nat} {xs : List PV}, dats n xs → sames xs xs = true
  | _, [], _ => rfl
  | n, x :: xs, h => by
    simp only [dats] at h
    simp only [sames, same_refl h.1, sames_refl h.2, Bool.and_self]
end
theorem dats_ints (n : Nat) (l : List Int) : dats n (l.map PV.int) := by
  induction l with
  | nil => simp [dats]
  | cons a l ih => simp [dats, dat, ih]
theorem dat_LI (l : List Int) (m : Md) (hm : m ≠ .lent) (k : Kd) (hk : k = .tup ∨ k = .lst) (h : l.length < 1000000000) : dat 1 (.con m k (l.map PV.int)) := by
  simp only [dat, List.length_map]
  exact ⟨hk, hm, h, dats_ints 0 l⟩
theorem dat_LIn (n : Nat) (l : List Int) (m : Md) (hm : m ≠ .lent) (k : Kd) (hk : k = .tup ∨ k = .lst) (h : l.length < 1000000000) : dat (n + 1) (.con m k (l.map PV.int)) := by
  simp only [dat, List.length_map]
  exact ⟨hk, hm, h, dats_ints n l⟩
end Law

/-! U6: units compared; any parts told. -/
namespace Law
open PySem PySem.Spec PyProof.Rows L2 Pv
theorem cv_dat {v : PV} (h : ∃ b, CV v b) : dat 2 v := by
  obtain ⟨b, h⟩ := h
  cases h with
  | ok i g => cases i <;> simp [Itr.pv, dat, dats]
  | odd v h =>
    simp only [oddC, List.mem_cons, List.not_mem_nil, or_false] at h
    rcases h with rfl | rfl | rfl | rfl | rfl | rfl | rfl | rfl | rfl | rfl <;> simp [tu, dat, dats]
theorem lv_dat {v : PV} (h : ∃ b, LV v b) : dat 2 v := by
  obtain ⟨b, h⟩ := h
  cases h with
  | ok i g => simp [dat]
  | odd v h =>
    simp only [oddL, List.mem_cons, List.not_mem_nil, or_false] at h
    rcases h with rfl | rfl | rfl | rfl | rfl <;> simp [dat]
theorem kv_dat {v : PV} {b : Bool} (h : KV v b) (n : Nat) : dat n v := by
  cases h with
  | ok o h => cases o <;> cases n <;> simp [okP, dat]
  | odd v h => rcases h with rfl | rfl <;> cases n <;> simp [dat]
def HF (v : PV) : Prop := ∀ n, ∃ b, HV n v b
theorem HF.num (s e t d : Int) {k : PV} {b : Bool} (h : KV k b) : HF (tu [.int s, .int e, .int t, .int d, k]) := fun n => ⟨_, .num s e t d k b h⟩
theorem hf_dat {v : PV} (h : HF v) : dat 2 v := by
  obtain ⟨b, h⟩ := h 0
  cases h with
  | num s e t d k b hk => simp [tu, dat, dats, kv_dat hk]
  | odd v h =>
    simp only [oddH, List.mem_cons, List.not_mem_nil, or_false] at h
    rcases h with rfl | rfl | rfl | rfl | rfl <;> simp [tu, dat, dats]
theorem dats_of {n : Nat} : ∀ {xs : List PV}, (∀ v ∈ xs, dat n v) → dats n xs
  | [], _ => by simp [dats]
  | x :: xs, h => by
    simp only [dats]
    exact ⟨h x (by simp), dats_of fun v hv => h v (by simp [hv])⟩
theorem vals_of {cs ls hs : List PV} (vc : ∀ v ∈ cs, ∃ b, CV v b) (vl : ∀ v ∈ ls, ∃ b, LV v b) (vh : ∀ v ∈ hs, HF v) (h1 : cs.length < 1000) (h2 : ls.length < 1000) (h3 : hs.length < 1000) : ∃ V : Vals, V.cs = cs ∧ V.ls = ls ∧ V.hs = hs := by
  refine ⟨⟨cs, ls, hs, fun k => if q : k < cs.length then Classical.choose (vc cs[k] (List.getElem_mem q)) else true, fun k => if q : k < ls.length then Classical.choose (vl ls[k] (List.getElem_mem q)) else true, fun k => if q : k < hs.length then Classical.choose (vh hs[k] (List.getElem_mem q) cs.length) else true, ?_, ?_, ?_, h1, h2, h3⟩, rfl, rfl, rfl⟩
  · intro k v hv
    obtain ⟨q, rfl⟩ := List.getElem?_eq_some_iff.mp hv
    rw [dif_pos q]
    exact Classical.choose_spec (vc cs[k] (List.getElem_mem q))
  · intro k v hv
    obtain ⟨q, rfl⟩ := List.getElem?_eq_some_iff.mp hv
    rw [dif_pos q]
    exact Classical.choose_spec (vl ls[k] (List.getElem_mem q))
  · intro k v hv
    obtain ⟨q, rfl⟩ := List.getElem?_eq_some_iff.mp hv
    rw [dif_pos q]
    exact Classical.choose_spec (vh hs[k] (List.getElem_mem q) cs.length)
theorem err_cases (V : Vals) {x : Str × Str × Option Nat} (h : V.err = some x) : x = ((("BadCode" : Str), ("code" : Str), (none : Option Nat)) : Str × Str × Option Nat) ∨ (∃ k, x = ((("BadInstruction" : Str), ("instruction" : Str), some (k : Nat)) : Str × Str × Option Nat)) ∨ (∃ k, x = ((("BadTarget" : Str), ("target" : Str), some (k : Nat)) : Str × Str × Option Nat)) ∨ (∃ k, x = ((("BadLine" : Str), ("line" : Str), some (k : Nat)) : Str × Str × Option Nat)) ∨ (∃ k, x = ((("BadHandler" : Str), ("handler" : Str), some (k : Nat)) : Str × Str × Option Nat)) ∨ x = ((("FallsOff" : Str), ("falls" : Str), (none : Option Nat)) : Str × Str × Option Nat) := by
  unfold Vals.err at h
  split at h
  · cases h; exact Or.inl rfl
  split at h
  · cases h; exact Or.inr (Or.inl ⟨_, rfl⟩)
  split at h
  · cases h; exact Or.inr (Or.inr (Or.inl ⟨_, rfl⟩))
  split at h
  · cases h; exact Or.inr (Or.inr (Or.inr (Or.inl ⟨_, rfl⟩)))
  split at h
  · cases h; exact Or.inr (Or.inr (Or.inr (Or.inr (Or.inl ⟨_, rfl⟩))))
  split at h
  · cases h
  · cases h; exact Or.inr (Or.inr (Or.inr (Or.inr (Or.inr rfl))))
/-! ### equality of rows of data -/
def teq (xs ys : List PV) : Bool := PyData.eqvAll (pds xs) (pds ys)
theorem eqv_lst {xs ys : List PyData} : PyData.eqv (.list xs) (.list ys) = PyData.eqvAll xs ys := by rw [PyData.eqv]
theorem eqv_tup {xs ys : List PyData} : PyData.eqv (.tuple xs) (.tuple ys) = PyData.eqvAll xs ys := by rw [PyData.eqv]
theorem eqvc {x y : PyData} {xs ys : List PyData} : PyData.eqvAll (x :: xs) (y :: ys) = (PyData.eqv x y && PyData.eqvAll xs ys) := by rw [PyData.eqvAll]
theorem eqvn : PyData.eqvAll [] [] = true := by rw [PyData.eqvAll]
theorem teq_refl {xs : List PV} (h : dats 2 xs) : teq xs xs = true := by
  have q := toPDs_dat (S := []) 2 xs 8 h (by omega)
  have p : toPD 9 [] (.con .own .lst xs) = some (.list (pds xs)) := by
    have e : toPD 9 [] (.con .own .lst xs) = (xs.mapM (toPD 8 [])).map .list := rfl
    rw [e, q]; rfl
  have r := PySem.SeqAt.eqv_refl_plain _ (toPD_plain 9 _ _ p).1
  rw [eqv_lst] at r
  exact r
theorem teq_len : ∀ {xs ys : List PV}, teq xs ys = true → xs.length = ys.length
  | [], [], _ => rfl
  | [], y :: ys, h => by simp [teq, pds, PyData.eqvAll] at h
  | x :: xs, [], h => by simp [teq, pds, PyData.eqvAll] at h
  | x :: xs, y :: ys, h => by
    simp only [teq, pds, PyData.eqvAll, Bool.and_eq_true] at h
    simp only [List.length_cons]
    rw [teq_len (xs := xs) (ys := ys) h.2]
theorem teq_at : ∀ {xs ys : List PV} {k : Nat} {a b : PV}, xs[k]? = some a → ys[k]? = some b → PyData.eqv (pd a) (pd b) = false → teq xs ys = false
  | [], _, _, _, _, h, _, _ => by simp at h
  | _ :: _, [], _, _, _, _, h, _ => by simp at h
  | x :: xs, y :: ys, 0, a, b, h1, h2, h => by
    simp at h1 h2
    subst h1 h2
    simp [teq, pds, PyData.eqvAll, h]
  | x :: xs, y :: ys, k + 1, a, b, h1, h2, h => by
    have ih := teq_at (xs := xs) (ys := ys) (k := k) (by simpa using h1) (by simpa using h2) h
    unfold teq at ih ⊢
    simp [pds, PyData.eqvAll, ih]
section
variable {S : Sto}
theorem pd_con {m : Md} {k : Kd} {xs : List PV} (hk : k = .lst ∨ k = .tup) (d : dats 2 xs) {n : Nat} (hn : 3 ≤ n) : toPD (n + 1) S (.con m k xs) = some (match k with | .tup => .tuple (pds xs) | _ => .list (pds xs)) := by
  have q := toPDs_dat (S := S) 2 xs n d (by omega)
  rcases hk with rfl | rfl
  · have e : toPD (n + 1) S (.con m .lst xs) = (xs.mapM (toPD n S)).map .list := rfl
    rw [e, q]; rfl
  · have e : toPD (n + 1) S (.con m .tup xs) = (xs.mapM (toPD n S)).map .tuple := rfl
    rw [e, q]; rfl
theorem pd_ref {r : Nat} {xs : List PV} (h : S[r]? = some (some (.lst, xs))) (d : dats 2 xs) {n : Nat} (hn : 3 ≤ n) : toPD (n + 1) S (.ref r) = some (.list (pds xs)) := by
  have q := toPDs_dat (S := S) 2 xs n d (by omega)
  have e : toPD (n + 1) S (.ref r) = match S[r]?.join with
      | some (.lst, xs) => (xs.mapM (toPD n S)).map .list
      | some (.tup, xs) => (xs.mapM (toPD n S)).map .tuple
      | _ => none := rfl
  rw [e]
  simp only [h, Option.join_some, q]
  rfl
theorem eqB_tup {m m' : Md} {xs ys : List PV} (d : dats 2 xs) (d' : dats 2 ys) : eqB S (.con m .tup xs) (.con m' .tup ys) = some (teq xs ys) := by
  have e1 := pd_con (S := S) (m := m) (Or.inr rfl) d (n := 8) (by omega)
  have e2 := pd_con (S := S) (m := m') (Or.inr rfl) d' (n := 8) (by omega)
  unfold eqB
  simp only [e1, e2]
  rw [eqv_tup]; rfl
theorem eqB_lr {m : Md} {xs ys : List PV} {r : Nat} (h : S[r]? = some (some (.lst, ys))) (d : dats 2 xs) (d' : dats 2 ys) : eqB S (.con m .lst xs) (.ref r) = some (teq xs ys) := by
  have e1 := pd_con (S := S) (m := m) (Or.inl rfl) d (n := 8) (by omega)
  have e2 := pd_ref h d' (n := 8) (by omega)
  unfold eqB
  simp only [e1, e2]
  rw [eqv_lst]; rfl
/-- three lists beside three lists -/
theorem eqB_three {m : Md} {a b c a' b' c' z : Nat} {xs ys zs xs' ys' zs' : List PV} (ha : S[a]? = some (some (.lst, xs))) (hb : S[b]? = some (some (.lst, ys))) (hc : S[c]? = some (some (.lst, zs)))
    (ha' : S[a']? = some (some (.lst, xs'))) (hb' : S[b']? = some (some (.lst, ys'))) (hc' : S[c']? = some (some (.lst, zs'))) (hz : S[z]? = some (some (.lst, [.ref a', .ref b', .ref c'])))
    (d1 : dats 2 xs) (d2 : dats 2 ys) (d3 : dats 2 zs) (d1' : dats 2 xs') (d2' : dats 2 ys') (d3' : dats 2 zs') :
    eqB S (.con m .lst [.ref a, .ref b, .ref c]) (.ref z) = some (teq xs xs' && (teq ys ys' && teq zs zs')) := by
  have e1 : toPD 9 S (.con m .lst [.ref a, .ref b, .ref c]) = some (.list [.list (pds xs), .list (pds ys), .list (pds zs)]) := by
    have e : toPD 9 S (.con m .lst [.ref a, .ref b, .ref c]) = ([PV.ref a, .ref b, .ref c].mapM (toPD 8 S)).map .list := rfl
    rw [e]
    simp only [List.mapM_cons, List.mapM_nil, pd_ref ha d1 (n := 7) (by omega), pd_ref hb d2 (n := 7) (by omega), pd_ref hc d3 (n := 7) (by omega)]
    rfl
  have e2 : toPD 9 S (.ref z) = some (.list [.list (pds xs'), .list (pds ys'), .list (pds zs')]) := by
    have e : toPD 9 S (.ref z) = match S[z]?.join with
      | some (.lst, xs) => (xs.mapM (toPD 8 S)).map .list
      | some (.tup, xs) => (xs.mapM (toPD 8 S)).map .tuple
      | _ => none := rfl
    rw [e]
    simp only [hz, Option.join_some, List.mapM_cons, List.mapM_nil, pd_ref ha' d1' (n := 7) (by omega), pd_ref hb' d2' (n := 7) (by omega), pd_ref hc' d3' (n := 7) (by omega)]
    rfl
  show (match toPD 9 S (.con m .lst [.ref a, .ref b, .ref c]), toPD 9 S (.ref z) with
    | some d, some e => some (PyData.eqv d e)
    | _, _ => none) = _
  rw [e1, e2]
  show some (PyData.eqv _ _) = _
  have q : PyData.eqv (.list [.list (pds xs), .list (pds ys), .list (pds zs)]) (.list [.list (pds xs'), .list (pds ys'), .list (pds zs')]) = (teq xs xs' && (teq ys ys' && teq zs zs')) := by
    unfold teq
    rw [eqv_lst, eqvc, eqvc, eqvc, eqv_lst, eqv_lst, eqv_lst, eqvn, Bool.and_true]
  rw [q]
end
/-! ### units -/
theorem unit_cl (V : Vals) {ml mh : Md} (h1 : ml ≠ .lent) (h2 : mh ≠ .lent) (ds : List (Option Nat)) : clean (unitM ml mh V.cs V.ls V.hs (depP ds)) = true := by
  have c2 : clean (.con ml .tup V.ls) = true := by
    revert h1; cases ml <;> simp [clean, V.cl]
  have c3 : clean (.con mh .tup V.hs) = true := by
    revert h2; cases mh <;> simp [clean, V.ch]
  show cleans [_, _, _, _] = true
  simp only [cleans, c2, c3]
  simp only [clean, V.cc, cleans_okd, depP]
  rfl
end Law

/-! U7: small tools over stores. -/
namespace Pv
open PySem PySem.Spec PyProof.Rows L2
theorem W.make {f : List PV → RP} {m : Nat} {dps : List PV} {as : AF} {Γ : Gam} {S : Sto} {Q : PV → Sto → Prop} (h : okR (as Γ S) fun vs S1 => vs.length = m ∧ ∃ qs v, vs.mapM (lendV S1) = some qs ∧ f (qs ++ dps) = .ok v ∧ Q v S1) : okR (eMakeP f m dps as Γ S) Q := by
  obtain ⟨vs, S1, e, hl, qs, v, e2, e3, q⟩ := h.eq
  refine okR.of (v := v) (S := S1) ?_ q
  unfold eMakeP
  rw [e]
  show (if vs.length = m then (match vs.mapM (lendV S1) with
    | some qs => match f (qs ++ dps) with
      | .ok v => R.ok v S1
      | .ex c fs => .ex c fs S1
      | .bad => .bad
    | none => .bad) else .bad) = _
  rw [if_pos hl, e2]
  show (match f (qs ++ dps) with
      | .ok v => R.ok v S1
      | .ex c fs => .ex c fs S1
      | .bad => .bad) = _
  rw [e3]
theorem W.gSub {f : SetF} {o j : EF} {v : PV} {B : Gam → Sto → Prop} {Γ : Gam} {S : Sto} (h : okR (o Γ S) fun x S1 => okR (j Γ S1) fun y S2 => ∃ S3, f x y v S2 = some S3 ∧ B Γ S3) : okR (gSubF f o j v Γ S) B := by
  unfold gSubF
  refine okR.bind (h.mono fun x S1 h => okR.bind (h.mono fun y S2 ⟨S3, e, q⟩ => ?_))
  rw [e]
  exact q
section
variable {S : Sto} {r n : Nat} {xs ps : List PV} {p v : PV} {i : Int} {k : Nat}
theorem appF (hr : S[r]? = some (some (.lst, ps))) (hz : ps.length < 1000000) : appendF (.ref r) [p] S = some (.non, S.set r (some (.lst, ps ++ [p]))) := by
  have z : sizeLine = 16777216 := sizeLine_eq
  exact appendF_ref hr (by omega)
theorem setF {j : Nat} (hr : S[r]? = some (some (.lst, ps))) (hj : j < ps.length) : setLF (.ref r) (.int (j : Nat)) v S = some (S.set r (some (.lst, ps.set j v))) := by
  rw [setLF_ref hr]
  have : ixN ps.length (j : Int) = some j := by unfold ixN; rw [if_pos (by omega), if_pos (by omega)]; simp
  rw [this]
  rfl
theorem listR (h : S[r]? = some (some (.lst, xs))) (hn : S.length = n) : listF true [.ref r] S = some (.ref n, S ++ [some (.lst, xs)]) := by
  subst hn
  unfold listF
  simp only [deref_ref, h, Option.join_some]
  rfl
theorem app_get {w : Option (Kd × List PV)} {u : Option (Kd × List PV)} (h : S[r]? = some u) : (S ++ [w])[r]? = some u := by
  rw [List.getElem?_append_left (List.getElem?_eq_some_iff.mp h).1]; exact h
theorem app_new {w : Option (Kd × List PV)} (h : S.length = n) : (S ++ [w])[n]? = some w := by
  subst h; simp
theorem set_get {w u : Option (Kd × List PV)} {d : Nat} (h : S[r]? = some u) (hd : d ≠ r) : (S.set d w)[r]? = some u := by rw [List.getElem?_set_ne hd]; exact h
theorem set_new {w u : Option (Kd × List PV)} (h : S[r]? = some u) : (S.set r w)[r]? = some w := List.getElem?_set_self (List.getElem?_eq_some_iff.mp h).1
theorem ixR (h : S[r]? = some (some (.lst, xs))) (e : L2.atI xs i = some v) : ixF (.ref r) (.int i) S = some (v, S) := by
  unfold ixF
  rw [ixB_ref h, e]
  rfl
theorem lendR (h : S[r]? = some (some (.lst, xs))) (c : cleans xs = true) : lendV S (.ref r) = some (.con .lent .lst xs) := by
  unfold lendV
  rw [if_neg (by simp [clean])]
  simp only [h, Option.join_some]
  rw [if_pos c]
theorem tupR (h : S[r]? = some (some (.lst, xs))) : tupleF [.ref r] S = some (.con .own .tup xs, S) := by
  rw [tupleF_refD, h]; rfl
end
end Pv
namespace Law
open PySem PySem.Spec PyProof.Rows L2 Pv
theorem mem_set {α : Type} {xs : List α} {j : Nat} {v : α} {C : α → Prop} (h : ∀ x ∈ xs, C x) (hv : C v) : ∀ x ∈ xs.set j v, C x := fun x hx => by
  rcases List.mem_or_eq_of_mem_set hx with q | q
  · exact h x q
  · rw [q]; exact hv
theorem mem_app {α : Type} {xs ys : List α} {C : α → Prop} (h : ∀ x ∈ xs, C x) (hv : ∀ x ∈ ys, C x) : ∀ x ∈ xs ++ ys, C x := fun x hx => by
  rcases List.mem_append.mp hx with q | q
  · exact h x q
  · exact hv x q
theorem DR.set {ns : List Int} {n : Nat} {S : Sto} {x : Nat} {v : Option (Kd × List PV)} (d : DR n ns S) (hx : x ≠ n) : DR n ns (S.set x v) := by
  obtain ⟨a, b, s, e, h0⟩ := d
  exact ⟨a, b, s, by rw [List.getElem?_set_ne hx]; exact e, h0⟩
theorem DR.app {ns : List Int} {n : Nat} {S : Sto} {v : Option (Kd × List PV)} (d : DR n ns S) : DR n ns (S ++ [v]) := by
  obtain ⟨a, b, s, e, h0⟩ := d
  exact ⟨a, b, s, app_get e, h0⟩
/-- a draw, and what else stands -/
theorem drawR {ns : List Int} {n : Nat} {S : Sto} {Q : PV → Sto → Prop} (d : DR n ns S) {m : Int} (hm : 0 < m) (hm2 : m < 100000) (q : ∀ (j : Nat) S', (j : Int) < m → DR n ns S' → S'.length = S.length → (∀ i, i ≠ n → S'[i]? = S[i]?) → Q (.int j) S') : okR (f_law_draw [.ref n, .int m] S) Q := by
  obtain ⟨x, S', e, x0, x1, d', fr⟩ := Law.draw d m hm (by omega)
  obtain ⟨j, rfl⟩ : ∃ j : Nat, x = j := ⟨x.toNat, by omega⟩
  exact okR.of e (q j S' x1 d' fr.1 fr.2)
theorem pick {S : Sto} {xs : List PV} {j : Nat} {m : Md} (hj : j < xs.length) : ixF (.con m .lst xs) (.int (j : Nat)) S = some (xs.getD j .non, S) := by
  show (L2.atI xs (j : Int)).map _ = _
  rw [atI_nat, getD_some hj]
  rfl
theorem getD_mem {xs : List PV} {j : Nat} (hj : j < xs.length) : xs.getD j .non ∈ xs := List.mem_of_getElem? (getD_some hj)
end Law

/-! J2a: places of rows. -/
namespace Law
open PySem PySem.Spec PyProof.Rows L2 Pv
def ntv (l : List Nat) : List PV := l.map fun n => .int (n : Nat)
theorem nats_flat (l : List Nat) : (ntv l).all flatP = true := by simp [ntv, flatP]
theorem nats_any (a : Nat) (l : List Nat) : ((ntv l).any fun y => eqP y (.int a)) = decide (a ∈ l) := by
  induction l with
  | nil => rfl
  | cons b l ih =>
    show ((ntv (b :: l)).any _) = _
    unfold ntv at *
    rw [List.map_cons, List.any_cons, ih]
    have e : eqP (.int (b : Nat)) (.int (a : Nat)) = decide (a = b) := by
      by_cases h : a = b
      · subst h; simp [eqP]
      · have h' : ¬ b = a := fun q => h q.symm
        have h2 : ¬ (b : Int) = (a : Int) := by omega
        simp [eqP, h, h2]
    rw [e]
    simp
theorem nats_in {S : Sto} {m : Md} {k : Kd} (hk : k = .lst ∨ k = .tup) (a : Nat) (l : List Nat) : inF (.int a) (.con m k (ntv l)) S = some (.bl (decide (a ∈ l)), S) := by
  have f := nats_flat l
  have g := nats_any a l
  unfold inF
  simp only [inB, deref_con, f, flatP, hk, and_self, if_true, g]
  rfl
theorem nats_inR {S : Sto} {r : Nat} {l : List Nat} (h : S[r]? = some (some (.lst, ntv l))) (a : Nat) : inF (.int a) (.ref r) S = some (.bl (decide (a ∈ l)), S) := by
  have f := nats_flat l
  have g := nats_any a l
  have d : deref S (.ref r) = some (.lst, ntv l) := by simp [deref, h]
  unfold inF
  simp only [inB, d, f, flatP, true_or, and_self, if_true, g]
  rfl

/-- all targets are in the code -/
def TgIn (rows : List Rw) : Prop := ∀ (i : Nat) (r : Rw), rows[i]? = some r → ∀ t, r.i.tgt = some t → t < rows.length
theorem ixF_nm (i : Itr) {S : Sto} : ixF i.pv (.int 0) S = some (.str (nm i), S) := by
  show (ixB _ i.pv (.int 0)).map _ = _
  rw [nm_ix]; rfl
theorem ixF_tgt {i : Itr} {t : Nat} (h : i.tgt = some t) {S : Sto} : ixF i.pv (.int 1) S = some (.int (t : Nat), S) := by
  show (ixB _ i.pv (.int 1)).map _ = _
  rw [tgt_ix h]; rfl
theorem jp_of {i : Itr} (h : nm i = ("jump" : Str)) : ∃ u, i = .jp u := by
  cases i with
  | jp u => exact ⟨u, rfl⟩
  | op o => cases o <;> exact absurd h (by decide +kernel)
  | c n => exact absurd h (by show ¬ (("const" : Str) = ("jump" : Str)); decide +kernel)
  | ld w => exact absurd h (by show ¬ (("load" : Str) = ("jump" : Str)); decide +kernel)
  | sto w => exact absurd h (by show ¬ (("store" : Str) = ("jump" : Str)); decide +kernel)
  | fl w => exact absurd h (by show ¬ (("fail" : Str) = ("jump" : Str)); decide +kernel)
  | ji w => exact absurd h (by show ¬ (("jumpif" : Str) = ("jump" : Str)); decide +kernel)
section
variable {rows : List Rw}
theorem pvs_at {k : Nat} {r : Rw} (h : rows[k]? = some r) : L2.atI (pvs rows) (k : Int) = some r.i.pv := by
  rw [atI_nat]; unfold pvs; rw [List.getElem?_map, h]; rfl
theorem lns_at {k : Nat} {r : Rw} (h : rows[k]? = some r) : L2.atI (lns rows) (k : Int) = some (.int (r.l : Nat)) := by
  rw [atI_nat]; unfold lns; rw [List.getElem?_map, h]; rfl
end
end Law

/-! F8: comprehensions with a test; slices. -/
namespace Pv
open PySem PySem.Spec PyProof.Rows L2
theorem lcL_fm {f : PV → Sto → R (Option PV)} (q : PV → Bool) (m : PV → PV) (S : Sto) : ∀ (ps acc : List PV), (∀ p ∈ ps, f p S = .ok (if q p = true then some (m p) else none) S) → acc.length + ps.length ≤ sizeLine → lcL f ps acc S = .ok (acc ++ (ps.filter q).map m) S
  | [], acc, _, _ => by simp [lcL]
  | p :: ps, acc, F, hl => by
    simp only [List.length_cons] at hl
    rw [lcL, F p (by simp)]
    cases hq : q p with
    | true =>
      rw [if_pos rfl]
      dsimp only
      rw [if_pos (by omega), lcL_fm q m S ps _ (fun p hp => F p (by simp [hp])) (by simp; omega)]
      simp [hq]
    | false =>
      rw [if_neg (by simp)]
      dsimp only
      rw [lcL_fm q m S ps _ (fun p hp => F p (by simp [hp])) (by omega)]
      simp [hq]
/-- a comprehension with a test, over things that stand still -/
theorem W.lcF {Γ : Gam} {S : Sto} {it : IF} {tt : BF} {te : EF} {i : Nat} {ps : List PV} {Q : PV → Sto → Prop} (q : PV → Bool) (m : PV → PV) (hi : it Γ S = .ok (stL ps, ps.length + 1) S) (hz : ps.length < 1000000)
    (ht : ∀ p ∈ ps, okR (tt ((wipeG Γ [i]).set i (some p)) S) fun b S' => b = q p ∧ S' = S) (he : ∀ p ∈ ps, q p = true → okR (te ((wipeG Γ [i]).set i (some p)) S) fun v S' => v = m p ∧ S' = S) (h : Q (.con .own .lst ((ps.filter q).map m)) S) :
    okR (eLc false it (gN i) tt te [i] Γ S) Q := by
  have z : sizeLine = 16777216 := sizeLine_eq
  have e1 : lcL (lcT (gN i) tt te (wipeG Γ [i])) ps [] S = .ok ((ps.filter q).map m) S := by
    rw [lcL_fm q m S ps [] (fun p hp => ?_) (by simp; omega), List.nil_append]
    obtain ⟨b, S1, e, rfl, e9⟩ := (ht p hp).eq
    rw [e9] at e
    unfold lcT
    rw [gN_eq]
    show (match tt ((wipeG Γ [i]).set i (some p)) S with
      | .ok true S2 => match te ((wipeG Γ [i]).set i (some p)) S2 with
        | .ok v S3 => R.ok (some v) S3
        | _ => .bad
      | .ok false S2 => .ok none S2
      | _ => .bad) = _
    rw [e]
    cases hq : q p with
    | true =>
      obtain ⟨v, S2, e2, rfl, e8⟩ := (he p hp hq).eq
      rw [e8] at e2
      dsimp only
      rw [e2]
      rfl
    | false => rfl
  refine okR.of (v := .con .own .lst ((ps.filter q).map m)) (S := S) ?_ h
  rw [eLc_eq, hi, lcK_L, e1, lcK2_f]
theorem iR2_ok {Γ : Gam} {S : Sto} {as : AF} {i j : Int} (e : as Γ S = .ok [.int i, .int j] S) (h : 0 ≤ i ∧ i < 1000000 ∧ 0 ≤ j ∧ j < 1000000) : iR2 as Γ S = .ok (stL (intsF i (j - i).toNat), (intsF i (j - i).toNat).length + 1) S := by
  have hl : (intsF i (j - i).toNat).length = (j - i).toNat := intsF_len
  unfold iR2
  rw [e]
  show (if -(2 ^ 62) ≤ i ∧ i < 2 ^ 62 ∧ -(2 ^ 62) ≤ j ∧ j < 2 ^ 62 then R.ok (stL (intsF i (j - i).toNat), (j - i).toNat + 1) S else .bad) = _
  rw [if_pos (by omega), hl]
/-- a piece of a tuple -/
theorem cutTup {xs : List PV} {S : Sto} {a b : Nat} (h : a ≤ b) (ha : a ≤ xs.length) : slF false (.con .own .tup xs) (some (a : Nat)) (some (b : Nat)) S = some (.con .own .tup ((xs.drop a).take (b - a)), S) := by
  have s1 : HT.sIx xs.length 0 (some ((a : Nat) : Int)) = a := by rw [HT.sIx_nat]; omega
  have s2 : HT.sIx xs.length xs.length (some ((b : Nat) : Int)) = min b xs.length := HT.sIx_nat _ _ _
  show (if HT.sIx xs.length 0 (some ((a : Nat) : Int)) = 0 ∧ HT.sIx xs.length xs.length (some ((b : Nat) : Int)) = xs.length then some (PV.con .own .tup xs, S) else some (.con .own .tup (cutP xs (some ((a : Nat) : Int)) (some ((b : Nat) : Int))), S)) = _
  unfold cutP
  rw [s1, s2]
  have e : (xs.drop a).take (min b xs.length - a) = (xs.drop a).take (b - a) := by
    by_cases c : b ≤ xs.length
    · rw [Nat.min_eq_left c]
    · rw [Nat.min_eq_right (by omega), List.take_of_length_le (by simp), List.take_of_length_le (by simp; omega)]
  split
  · rename_i c
    obtain ⟨c1, c2⟩ := c
    subst c1
    rw [List.drop_zero, List.take_of_length_le (by omega)]
  · rw [e]
end Pv

/-! F18: a comprehension with a test over a changing list that stands still meanwhile. -/
namespace Pv
open PySem PySem.Spec PyProof.Rows L2
theorem lcI_fm {st : Stp} {gt : GF} {tt : BF} {te : EF} {Γ : Gam} {S : Sto} {ps : List PV} (q : PV → Bool) (m : PV → PV) (hs : ∀ i : Nat, st S i = some ps[i]?) (hz : ps.length < sizeLine)
    (h : ∀ p ∈ ps, ∃ Γ1, gt p Γ S = .ok Γ1 S ∧ tt Γ1 S = .ok (q p) S ∧ (q p = true → te Γ1 S = .ok (m p) S)) : ∀ (k i : Nat) (acc : List PV), i + k = ps.length → acc.length ≤ i → lcI st gt tt te Γ (k + 1) i acc S = .ok (acc ++ ((ps.drop i).filter q).map m) S
  | 0, i, acc, e, _ => by
    unfold lcI
    rw [hs, List.getElem?_eq_none (by omega), List.drop_eq_nil_of_le (by omega)]
    show R.ok acc S = _
    simp
  | k + 1, i, acc, e, ha => by
    have hi : i < ps.length := by omega
    obtain ⟨Γ1, h2, h3, h4⟩ := h ps[i] (List.getElem_mem hi)
    rw [List.drop_eq_getElem_cons hi]
    unfold lcI
    rw [hs, List.getElem?_eq_getElem hi]
    cases hq : q ps[i] with
    | true =>
      rw [hq] at h3
      simp only [h2, h3, h4 hq]
      rw [if_pos (by omega), lcI_fm q m hs hz h k (i + 1) _ (by omega) (by simp; omega), List.filter_cons_of_pos hq, List.map_cons, List.append_assoc]
      rfl
    | false =>
      rw [hq] at h3
      simp only [h2, h3]
      rw [lcI_fm q m hs hz h k (i + 1) _ (by omega) (by omega), List.filter_cons_of_neg (by rw [hq]; simp)]
theorem W.lcFR {Γ : Gam} {S : Sto} {j i r : Nat} {tt : BF} {te : EF} {ps : List PV} {Q : PV → Sto → Prop} (q : PV → Bool) (m : PV → PV) (hj : Γ[j]? = some (some (.ref r))) (hr : S[r]? = some (some (.lst, ps))) (hz : ps.length < 1000000)
    (ht : ∀ p ∈ ps, okR (tt ((wipeG Γ [i]).set i (some p)) S) fun b S' => b = q p ∧ S' = S) (he : ∀ p ∈ ps, q p = true → okR (te ((wipeG Γ [i]).set i (some p)) S) fun v S' => v = m p ∧ S' = S) (h : Q (.con .own .lst ((ps.filter q).map m)) S) :
    okR (eLc false (iAny (eV j)) (gN i) tt te [i] Γ S) Q := by
  have z : sizeLine = 16777216 := sizeLine_eq
  have e0 : iAny (eV j) Γ S = .ok (stR r, ps.length + 1) S := by
    have : eV j Γ S = .ok (.ref r) S := by unfold eV; rw [hj]
    unfold iAny
    rw [this]
    show (match walkB S (.ref r) with | some q => R.ok q S | none => .bad) = _
    unfold walkB
    simp only [hr, Option.join_some]
  have e1 : lcI (stR r) (gN i) tt te (wipeG Γ [i]) (ps.length + 1) 0 [] S = .ok ((ps.filter q).map m) S := by
    have := lcI_fm (st := stR r) (gt := gN i) (tt := tt) (te := te) (Γ := wipeG Γ [i]) (S := S) (ps := ps) q m (fun k => by unfold stR; simp only [hr, Option.join_some]) (by omega) (fun p hp => by
      obtain ⟨b, S1, e, rfl, e9⟩ := (ht p hp).eq
      rw [e9] at e
      refine ⟨_, rfl, e, fun hq => ?_⟩
      obtain ⟨v, S2, e2, rfl, e8⟩ := (he p hp hq).eq
      rw [e8] at e2
      exact e2) ps.length 0 [] (by omega) (Nat.le_refl _)
    rw [List.drop_zero, List.nil_append] at this
    exact this
  unfold eLc
  rw [e0]
  show okR ((lcI (stR r) (gN i) tt te (wipeG Γ [i]) (ps.length + 1) 0 [] S).bind _) Q
  rw [e1]
  exact h
end Pv

/-! Oe: how a law ends; lists of numbers. -/
namespace Law
open PySem PySem.Spec PyProof.Rows L2 Pv
def okE (r : RS) : Prop := ∃ S', r = .rt (.bl true) S'
theorem W.eLcR {Γ : Gam} {S : Sto} {as : AF} {i m : Nat} {Q : PV → Sto → Prop} (hi : i < Γ.length) (h : okR (as Γ S) fun vs S1 => vs = [.int (m : Nat)] ∧ m < 1000000 ∧ Q (.con .own .lst (intsF 0 m)) S1) : okR (eLc false (iR1 as) (gN i) bYes (eV i) [i] Γ S) Q := by
  obtain ⟨vs, S1, e, rfl, h1, q⟩ := h.eq
  have z : sizeLine = 16777216 := sizeLine_eq
  have hlen : (intsF 0 m).length = m := intsF_len
  have e1 : lcL (lcT (gN i) bYes (eV i) (wipeG Γ [i])) (intsF 0 m) [] S1 = .ok (intsF 0 m) S1 := by
    rw [lcL_map id S1 (intsF 0 m) [] (fun x _ => ?_) (by rw [hlen]; simp; omega)]
    · simp
    · unfold lcT
      rw [gN_eq]
      show (match eV i ((wipeG Γ [i]).set i (some x)) S1 with | .ok v S3 => R.ok (some v) S3 | _ => .bad) = _
      have : ((wipeG Γ [i]).set i (some x))[i]? = some (some x) := by
        rw [List.getElem?_set_self]
        simp
        exact hi
      unfold eV
      rw [this]
      rfl
  refine okR.of (v := .con .own .lst (intsF 0 m)) (S := S1) ?_ q
  rw [eLc_eq, iR1_eq, e, r1K_ok ⟨by omega, by omega⟩, Int.toNat_natCast, lcK_L, e1, lcK2_f]
theorem gUr {is : List Nat} {r : Nat} {xs : List PV} {Γ : Gam} {S : Sto} (h : S[r]? = some (some (.lst, xs))) : gU is (.ref r) Γ S = gNs is xs Γ S := by
  unfold gU
  simp only [deref_ref, h, Option.join_some]
theorem W.tryN {Γ : Gam} {S : Sto} {P : RS → Prop} {t : SF} {l : List (List (Str × Bool) × SF)} (h : rsP (t Γ S) fun r => ∃ Γ' S', r = .nx Γ' S' ∧ P (.nx Γ' S')) : rsP (sTry t l Γ S) P := by
  obtain ⟨Γ', S', e, p⟩ := h
  unfold rsP
  rw [sTry_eq, e, tryK_nx]
  exact p
theorem jinL (i : Itr) : ([PV.str "jump", .str "jumpif"].any fun y => eqP y (.str (nm i))) = i.tgt.isSome := by
  have h : some (PV.bl ([PV.str "jump", .str "jumpif"].any fun y => eqP y (.str (nm i))), ([] : Sto)) = some (.bl (decide (nm i ∈ c_JUMPS)), []) := inF_strs (S := []) (m := .own) (k := .tup) (Or.inr rfl) (nm i) c_JUMPS
  rw [← nm_jump]
  have h := congrArg Prod.fst (Option.some.inj h)
  exact PV.bl.inj h
end Law

/-! W4: more of the step tactic: what is read through references, branches that the context decides. -/
namespace Pv
open PySem PySem.Spec PyProof.Rows L2
theorem W.kT2 {A C : Prop} {p : Prop} [Decidable p] (e : p) (h : A) : (decide p = true → A) ∧ (decide p = false → C) := W.kT' (decide_eq_true e) h
theorem W.kF2 {A C : Prop} {p : Prop} [Decidable p] (e : ¬ p) (h : C) : (decide p = true → A) ∧ (decide p = false → C) := W.kF' (decide_eq_false e) h
theorem W.kNT {A C : Prop} {p : Prop} [Decidable p] (e : ¬ p) (h : A) : ((!decide p) = true → A) ∧ ((!decide p) = false → C) := W.kT' (by simp [e]) h
theorem W.kNF {A C : Prop} {p : Prop} [Decidable p] (e : p) (h : C) : ((!decide p) = true → A) ∧ ((!decide p) = false → C) := W.kF' (by simp [e]) h
theorem popR {S : Sto} {r : Nat} {ps : List PV} {p : PV} (h : S[r]? = some (some (.lst, ps ++ [p]))) : popF (.ref r) [] S = some (p, S.set r (some (.lst, ps))) := by
  unfold popF lstF
  simp [h]
theorem tyL {S : Sto} {n : Nat} {xs : List PV} (h : S[n]? = some (some (.lst, xs))) : tyP "list" S (.ref n) = true := by
  unfold tyP
  simp [deref, h]
end Pv

local macro_rules | `(tactic| wtm_at "sto") => `(tactic| first
  | assumption
  | with_reducible rfl
  | (refine Pv.set_new ?_; wtm_at "sto")
  | (refine Pv.set_get ?_ (by omega); wtm_at "sto")
  | (refine Pv.app_get ?_; wtm_at "sto")
  | exact Pv.app_new rfl
  | exact Pv.app_new (by simp)
  | rfl)
local macro_rules | `(tactic| wtm_at "elt") => `(tactic| first
  | assumption
  | exact Law.pvs_at (by assumption)
  | exact Law.lns_at (by assumption)
  | with_reducible rfl
  | rfl)
local macro_rules | `(tactic| wtm_at "kd") => `(tactic| first
  | exact Or.inl rfl
  | exact Or.inr rfl
  | assumption)
local macro_rules | `(tactic| wtm_at "fact") => `(tactic| first
  | assumption
  | omega
  | (dsimp only; first | assumption | omega))
local macro_rules | `(tactic| wtm_at "r1") => `(tactic| with_reducible refine Pv.W.gSub ?_)
local macro_rules | `(tactic| wtm_at "r1") => `(tactic| ((with_reducible show Pv.tyP _ _ (Pv.PV.ref _) = true ∧ _); refine ⟨Pv.tyL (by wtm_at "sto"), ?_⟩))
local macro_rules | `(tactic| wtm_at "r1") => `(tactic| ((with_reducible show ∃ z S3, Pv.listF true [Pv.PV.ref _] _ = some (z, S3) ∧ _); refine ⟨_, _, Pv.listR (by wtm_at "sto") rfl, ?_⟩))
local macro_rules | `(tactic| wtm_at "r1") => `(tactic| ((with_reducible show ∃ z S3, Pv.popF (Pv.PV.ref _) [] _ = some (z, S3) ∧ _); refine ⟨_, _, Pv.popR (by wtm_at "sto"), ?_⟩))
local macro_rules | `(tactic| wtm_at "r1") => `(tactic| ((with_reducible show ∃ z S3, Pv.appendF (Pv.PV.ref _) [_] _ = some (z, S3) ∧ _); refine ⟨_, _, Pv.appF (by wtm_at "sto") (by wtm_at "fact"), ?_⟩))
local macro_rules | `(tactic| wtm_at "r1") => `(tactic| ((with_reducible show ∃ z S3, Pv.lenF [Pv.PV.con _ _ _] _ = some (z, S3) ∧ _); refine ⟨_, _, Pv.lenK (by wtm_at "kd"), ?_⟩))
local macro_rules | `(tactic| wtm_at "r1") => `(tactic| ((with_reducible show ∃ z S3, Pv.lenF [Pv.PV.ref _] _ = some (z, S3) ∧ _); refine ⟨_, _, Pv.lenF_ref (by wtm_at "sto"), ?_⟩))
local macro_rules | `(tactic| wtm_at "r1") => `(tactic| ((with_reducible show ∃ z S3, Pv.ixF (Pv.PV.con _ _ _) _ _ = some (z, S3) ∧ _); refine ⟨_, _, Pv.ixK (by wtm_at "kd") (by wtm_at "elt"), ?_⟩))
local macro_rules | `(tactic| wtm_at "r1") => `(tactic| ((with_reducible show ∃ z S3, Pv.ixF (Pv.PV.ref _) _ _ = some (z, S3) ∧ _); refine ⟨_, _, Pv.ixR (by wtm_at "sto") (by wtm_at "elt"), ?_⟩))
local macro_rules | `(tactic| wtm_at "r1") => `(tactic| ((with_reducible show ∃ z S3, Pv.ixF (Law.Itr.pv _) (Pv.PV.int 1) _ = some (z, S3) ∧ _); refine ⟨_, _, Law.ixF_tgt (by assumption), ?_⟩))
local macro_rules | `(tactic| wtm_at "r1") => `(tactic| ((with_reducible show ∃ z S3, Pv.ixF (Law.Itr.pv _) (Pv.PV.int 0) _ = some (z, S3) ∧ _); refine ⟨_, _, Law.ixF_nm _, ?_⟩))
local macro_rules | `(tactic| wtm_at "r") => `(tactic| first | wtm_at "r1" | fail "r")
local macro_rules | `(tactic| wtm_at "b1") => `(tactic| ((with_reducible show ((!decide _) = true → _) ∧ ((!decide _) = false → _)); first | refine Pv.W.kNT (by wtm_at "fact") ?_ | refine Pv.W.kNF (by wtm_at "fact") ?_ | fail "b"))
local macro_rules | `(tactic| wtm_at "b1") => `(tactic| ((with_reducible show (decide _ = true → _) ∧ (decide _ = false → _)); first | refine Pv.W.kT2 (by wtm_at "fact") ?_ | refine Pv.W.kF2 (by wtm_at "fact") ?_ | fail "b"))
local macro_rules | `(tactic| wtm_at "b") => `(tactic| first | wtm_at "b1" | fail "b")
local macro_rules | `(tactic| wtm_at "w") => `(tactic| repeat' (first | wtm_at "s" | wtm_at "r" | wtm_at "b" | fail "w"))

/-! X3a: exits, the law's. -/
namespace Law
open PySem PySem.Spec PyProof.Rows L2 Pv
theorem W.eSs {t : EF} {Γ : Gam} {S : Sto} {Q : PV → Sto → Prop} {L : List Nat} {p : PV} (h : t Γ S = .ok p S) (hd : deref S p = some (.lst, ntv L)) (hz : L.length < 4000) (q : Q (.con .own .lst ((srtI (L.map fun n : Nat => (n : Int))).map .int)) S) : okR (Pv.eSs false t Γ S) Q := by
  have e : ntv L = (L.map fun n : Nat => (n : Int)).map PV.int := by unfold ntv; rw [List.map_map]; rfl
  refine okR.of (v := .con .own .lst ((srtI (L.map fun n : Nat => (n : Int))).map .int)) (S := S) ?_ q
  unfold Pv.eSs
  rw [h]
  show (match deref S p with
    | some (.lst, xs) => _
    | _ => R.bad) = _
  rw [hd, e]
  show (match intsOf ((L.map fun n : Nat => (n : Int)).map PV.int) with | some ns => _ | none => R.bad) = _
  rw [intsOf_map]
  show (if (L.map fun n : Nat => (n : Int)).length < 4000 then _ else _) = _
  rw [if_pos (by rw [List.length_map]; exact hz)]
  rfl
theorem ntv_one (l : List Nat) (u : Nat) : ntv l ++ [.int (u : Nat)] = ntv (l ++ [u]) := by unfold ntv; rw [List.map_append]; rfl
theorem ints_clean : ∀ l : List Int, cleans (l.map PV.int) = true
  | [] => rfl
  | n :: l => by simp only [List.map_cons, cleans, clean, ints_clean l]; rfl
section
variable {rows : List Rw} {hds : List Hnd}
/-- the exits' places -/
def exT (n : Nat) (hds : List Hnd) (i : Nat) (r : Itr) : List Nat := (exits n hds i r).map (·.1)
theorem hnd_at (h : Hnd) {S : Sto} : ixF h.pv (.int 0) S = some (.int (h.s : Nat), S) ∧ ixF h.pv (.int 1) S = some (.int (h.e : Nat), S) ∧ ixF h.pv (.int 2) S = some (.int (h.t : Nat), S) ∧ ixF h.pv (.int 3) S = some (.int (h.d : Nat), S) ∧ ixF h.pv (.int 4) S = some (okP h.k, S) := ⟨rfl, rfl, rfl, rfl, rfl⟩
section
variable {a0 a1 a3 a4 y7 : Option PV} {i : Nat} {k : Str} {S : Sto} {P : RS → Prop}
theorem lex_found (h : Hnd) (q : ∀ y7, rsP (.nx [a0, a1, some (.int (i : Nat)), a3, a4, some (.str k), some h.pv, y7] S) P) : ∀ (hds : List Hnd) (y7 : Option PV), rsP (forL (sTurn (gN 7) l0_law_exits) (hvs hds) [a0, a1, some (.int (i : Nat)), a3, a4, some (.str k), some h.pv, y7] S) P
  | [], y7 => Pv.W.forKN (q y7)
  | x :: hds, y7 => by
    refine Pv.W.forK (okR.of rfl ?_)
    unfold l0_law_exits
    wtm_at "w"
    exact lex_found h q hds _
theorem lex_loop : ∀ (hds : List Hnd) (y7 : Option PV) (q : ∀ y7, rsP (.nx [a0, a1, some (.int (i : Nat)), a3, a4, some (.str k), some (recvP hds i k), y7] S) P), rsP (forL (sTurn (gN 7) l0_law_exits) (hvs hds) [a0, a1, some (.int (i : Nat)), a3, a4, some (.str k), some .non, y7] S) P
  | [], y7, q => Pv.W.forKN (q y7)
  | ⟨s, e, t, d, kk⟩ :: hds, y7, q => by
    refine Pv.W.forK (okR.of rfl ?_)
    have no : rcv i k ⟨s, e, t, d, kk⟩ = false → rsP (forL (sTurn (gN 7) l0_law_exits) (hvs hds) [a0, a1, some (.int (i : Nat)), a3, a4, some (.str k), some .non, some (Hnd.mk s e t d kk).pv] S) P := fun e => lex_loop hds _ fun y7 => by
      have := q y7
      unfold recvP at this ⊢
      rw [List.find?_cons, e] at this
      exact this
    have yes : rcv i k ⟨s, e, t, d, kk⟩ = true → rsP (forL (sTurn (gN 7) l0_law_exits) (hvs hds) [a0, a1, some (.int (i : Nat)), a3, a4, some (.str k), some (Hnd.mk s e t d kk).pv, some (Hnd.mk s e t d kk).pv] S) P := fun e => lex_found _ (fun y7 => by
      have := q y7
      unfold recvP at this
      rw [List.find?_cons, e] at this
      exact this) hds _
    unfold l0_law_exits
    by_cases c1 : s ≤ i
    · by_cases c2 : i < e
      · cases kk with
        | none =>
          wtm_at "w"
          exact yes (by simp [rcv, c1, c2])
        | some w =>
          by_cases c3 : w = k
          · wtm_at "w"
            exact yes (by simp [rcv, c1, c2, c3])
          · wtm_at "w"
            exact no (by simp [rcv, c1, c2, c3])
      · wtm_at "w"
        exact no (by simp [rcv, c2])
    · wtm_at "w"
      exact no (by simp [rcv, c1])
end
end
end Law

/-! X3b: exits, the law's: the whole. -/
namespace Law
open PySem PySem.Spec PyProof.Rows L2 Pv
section
variable {rows : List Rw} {hds : List Hnd}
theorem lexits_ok {i : Nat} {r : Rw} (hr : rows[i]? = some r) (hl : r.i.last = false → i + 1 < rows.length) {m1 m2 : Md} :
    f_law_exits [.con m1 .lst (pvs rows), .con m2 .lst (hvs hds), .int (i : Nat)] = .ok (.con .own .lst ((srtI ((exT rows.length hds i r.i).map fun n : Nat => (n : Int))).map .int)) := by
  obtain ⟨it, l⟩ := r
  have fin : ∀ {a0 a1 a2 a3 a5 a6 a7 : Option PV} (L : List Nat), L.length < 50 → L = exT rows.length hds i it → okR (Pv.eSs false (eV 4) [a0, a1, a2, a3, some (.ref 0), a5, a6, a7] [some (.lst, ntv L)]) fun v S1 => rsP (RS.rt v S1) fun r => ∃ u S, r = RS.rt u S ∧ resP S u = RP.ok (PV.con Md.own Kd.lst (List.map PV.int (srtI (List.map (fun n : Nat => (n : Int)) (exT rows.length hds i it))))) := fun L h e => by
    subst e
    exact W.eSs (p := .ref 0) rfl rfl (by omega) ⟨_, _, rfl, resP_clean (ints_clean _)⟩
  have hx : ∀ {a0 a1 a3 : Option PV} {k : Str} (L : List Nat), L.length < 40 → exT rows.length hds i it = L ++ (match hds.find? (rcv i k) with | some h => [h.t] | none => []) → rsP (forL (sTurn (gN 7) l0_law_exits) (hvs hds) [a0, a1, some (.int (i : Nat)), a3, some (.ref 0), some (.str k), some .non, none] [some (.lst, ntv L)]) (thenS r1_law_exits (thenS r3_law_exits fun r => ∃ u S, r = RS.rt u S ∧ resP S u = RP.ok (PV.con Md.own Kd.lst (List.map PV.int (srtI (List.map (fun n : Nat => (n : Int)) (exT rows.length hds i it))))))) := fun {a0 a1 a3 k} L h e => by
    refine lex_loop hds none fun y7 => ?_
    unfold recvP
    cases hf : hds.find? (rcv i k) with
    | none =>
      rw [hf] at e
      wtm_at "w"
      exact fin L (by omega) (by rw [e]; simp)
    | some x =>
      rw [hf] at e
      have n1 : (ntv L).length < 1000000 := by unfold ntv; rw [List.length_map]; omega
      show rsP (.nx [a0, a1, some (.int (i : Nat)), a3, some (.ref 0), some (.str k), some x.pv, y7] _) _
      wtm_at "w"
      rw [ntv_one]
      refine fin (L ++ [x.t]) (by simp; omega) e.symm
  unfold f_law_exits
  wtm_at "in"
  have hlt := hl
  cases it with
  | op o => cases o <;> (wtm_at "w"; first | exact fin [i + 1] (by simp) (by simp [exT, exits, exN, exJ, exH, Itr.last, Itr.tgt, kindO, hlt rfl]) | exact fin [] (by simp) (by simp [exT, exits, exN, exJ, exH, Itr.last, Itr.tgt, kindO]) | exact hx [i + 1] (by simp) (by simp [exT, exits, exN, exJ, exH, Itr.last, Itr.tgt, kindO, hlt rfl]; generalize List.find? _ hds = z; cases z <;> rfl))
  | c n =>
    wtm_at "w"
    exact fin [i + 1] (by simp) (by simp [exT, exits, exN, exJ, exH, Itr.last, Itr.tgt, kindO, hlt rfl])
  | ld n =>
    wtm_at "w"
    exact hx [i + 1] (by simp) (by simp [exT, exits, exN, exJ, exH, Itr.last, Itr.tgt, kindO, hlt rfl]; generalize List.find? _ hds = z; cases z <;> rfl)
  | sto n =>
    wtm_at "w"
    exact fin [i + 1] (by simp) (by simp [exT, exits, exN, exJ, exH, Itr.last, Itr.tgt, kindO, hlt rfl])
  | fl n =>
    wtm_at "w"
    exact hx [] (by simp) (by simp [exT, exits, exN, exJ, exH, Itr.last, Itr.tgt, kindO]; generalize List.find? _ hds = z; cases z <;> rfl)
  | jp n =>
    wtm_at "w"
    exact fin [n] (by simp) (by simp [exT, exits, exN, exJ, exH, Itr.last, Itr.tgt, kindO])
  | ji n =>
    wtm_at "w"
    exact fin [i + 1, n] (by simp) (by simp [exT, exits, exN, exJ, exH, Itr.last, Itr.tgt, kindO, hlt rfl])
end
end Law

/-! X3c: exits, the program's. -/
namespace Pv
open PySem PySem.Spec PyProof.Rows L2
theorem srtI_rev (l : List Int) : srtI l.reverse = srtI l := asc_ext (srtI_asc _) (srtI_asc _) fun x => by rw [mem_srtI, mem_srtI, List.mem_reverse]
theorem siI_still {st : Stp} {gt : GF} {te : EF} {Γ : Gam} {S : Sto} {ps : List PV} (f : PV → Int) (hs : ∀ i : Nat, st S i = some ps[i]?) (hz : ps.length < 4000)
    (h : ∀ p ∈ ps, ∃ Γ1, gt p Γ S = .ok Γ1 S ∧ te Γ1 S = .ok (.int (f p)) S) : ∀ (k i : Nat) (acc : List Int), i + k = ps.length → acc.length = i → siI st gt bYes te Γ (k + 1) i acc S = .ok (((ps.drop i).map f).reverse ++ acc) S
  | 0, i, acc, e, _ => by
    unfold siI
    rw [hs, List.getElem?_eq_none (by omega), List.drop_eq_nil_of_le (by omega)]
    rfl
  | k + 1, i, acc, e, ha => by
    have hi : i < ps.length := by omega
    obtain ⟨Γ1, h2, h3⟩ := h ps[i] (List.getElem_mem hi)
    have h4 : bYes Γ1 S = .ok true S := rfl
    unfold siI
    rw [hs, List.getElem?_eq_getElem hi]
    simp only [h2, h3, h4]
    rw [if_pos (by omega), siI_still f hs hz h k (i + 1) _ (by omega) (by simp [ha]), List.drop_eq_getElem_cons hi, List.map_cons, List.reverse_cons, List.append_assoc]
    rfl
theorem W.siC {Γ : Gam} {S : Sto} {e : EF} {gt : GF} {te : EF} {vs : List Nat} {Q : PV → Sto → Prop} (f : PV → Int) (h : okR (e Γ S) fun v S1 => ∃ m ps, (v = .con m .lst ps ∨ v = .con m .tup ps) ∧ ps.length < 4000 ∧ (∀ p ∈ ps, ∃ Γ1, gt p (wipeG Γ vs) S1 = .ok Γ1 S1 ∧ te Γ1 S1 = .ok (.int (f p)) S1) ∧ Q (.con .own .lst ((srtI (ps.map f)).map .int)) S1) :
    okR (eSi false (iAny e) gt bYes te vs Γ S) Q := by
  obtain ⟨v, S1, e1, m, ps, hv, hz, hp, q⟩ := h.eq
  have ei : iAny e Γ S = .ok (stL ps, ps.length + 1) S1 := by
    rw [iAny_eq, e1]
    rcases hv with rfl | rfl
    · exact anyK_lst
    · exact anyK_tup
  refine okR.of (v := .con .own .lst ((srtI (ps.map f)).map .int)) (S := S1) ?_ q
  unfold eSi
  rw [ei]
  show (siI (stL ps) gt bYes te (wipeG Γ vs) (ps.length + 1) 0 [] S1).bind _ = _
  rw [siI_still (st := stL ps) f (fun i => rfl) hz hp ps.length 0 [] (by omega) rfl]
  simp only [List.drop_zero, List.append_nil]
  show R.ok (newP false .lst ((srtI (ps.map f).reverse).map .int) S1).1 _ = _
  rw [srtI_rev]
  rfl
end Pv
namespace Law
open PySem PySem.Spec PyProof.Rows L2 Pv
section
variable {rows : List Rw} {hds : List Hnd}
def firstI : PV → Int
  | .con _ _ (.int n :: _) => n
  | _ => 0
theorem exits_len (n : Nat) (hds : List Hnd) (i : Nat) (r : Itr) : (exits n hds i r).length ≤ 3 := by
  have h1 : (exN n i r).length ≤ 1 := by unfold exN; split <;> simp
  have h2 : (exJ r).length ≤ 1 := by unfold exJ; split <;> simp
  have h3 : (exH hds i r).length ≤ 1 := by
    unfold exH
    split
    · split <;> simp
    · simp
  unfold exits
  rw [List.length_append, List.length_append]
  omega
theorem exits_ok {i : Nat} {r : Rw} (hr : rows[i]? = some r) (hz : rows.length < 100000) {ml mh : Md} (hm : mh ≠ .lent) {ls : List PV} {d : PV} :
    f_exits [unitM ml mh (pvs rows) ls (hvs hds) d, .int (i : Nat)] = .ok (.con .own .lst ((srtI ((exT rows.length hds i r.i).map fun n : Nat => (n : Int))).map .int)) := by
  have mv := moves_okM hm rows hds i r hr hz
  have c1 := clean_code rows
  have c2 := clean_hp hm hds
  unfold f_exits
  wtm_at "in"
  wtm_at "s"
  refine Pv.W.siC firstI ?_
  wtm_at "w"
  refine ⟨_, _, lends_ok (vs := [codeP rows, hdsM mh hds, .int (i : Nat)]) (by simp only [List.mem_cons, List.not_mem_nil, or_false, forall_eq_or_imp, forall_eq]; exact ⟨c1, c2, rfl⟩), mv, ?_⟩
  refine ⟨_, _, Or.inl rfl, ?_, fun p hp => ?_, ?_⟩
  · have := exits_len rows.length hds i r.i
    rw [List.length_map]; omega
  · obtain ⟨x, _, rfl⟩ := List.mem_map.mp hp
    exact ⟨_, rfl, rfl⟩
  · have e : List.map firstI (List.map exP (exits rows.length hds i r.i)) = (exT rows.length hds i r.i).map fun n : Nat => (n : Int) := by
      unfold exT
      rw [List.map_map, List.map_map]
      rfl
    rw [e]
    exact ⟨_, _, rfl, resP_clean (ints_clean _)⟩
end
end Law

/-! X3d: depths_of = runX (its own worklist, plain). -/
namespace Law
open PySem PySem.Spec PyProof.Rows L2 Pv
abbrev StX := List (Option Nat) × List Nat
def deepX (dep : Nat) : Option Hnd → Bool
  | some h => decide (dep < h.d)
  | none => false
def oneX (dep aft : Nat) (x : Nat × Option Hnd) (s : StX) : Option StX := if deepX dep x.2 = true then none else match s.1[x.1]? with
  | some none => some (s.1.set x.1 (some (wantd aft x)), s.2 ++ [x.1])
  | some (some d) => if d = wantd aft x then some s else none
  | none => none
def allX (dep aft : Nat) : List (Nat × Option Hnd) → StX → Option StX
  | [], s => some s
  | x :: xs, s => (oneX dep aft x s).bind (allX dep aft xs)
def turnX (rows : List Rw) (hds : List Hnd) (i : Nat) (s : StX) : Option StX := match rows[i]?, s.1[i]? with
  | some r, some (some dep) => if dep < r.i.rem then none else allX dep (dep - r.i.rem + r.i.push) (exits rows.length hds i r.i) s
  | _, _ => none
def runX (rows : List Rw) (hds : List Hnd) : Nat → StX → Option (List (Option Nat))
  | 0, s => some s.1
  | m + 1, s => match s.2.getLast? with
    | none => some s.1
    | some i => (turnX rows hds i (s.1, s.2.dropLast)).bind (runX rows hds m)
/-- how it ends, as the walk says it -/
def EndX (R : Option (List (Option Nat))) (P : RS → Prop) : Prop := R = none → ∀ Γ S, P (.ex "BadDepth" [] Γ S)
theorem hnd_at' (h : Hnd) {S : Sto} : ixF h.pv (.int 0) S = some (.int (h.s : Nat), S) ∧ ixF h.pv (.int 1) S = some (.int (h.e : Nat), S) ∧ ixF h.pv (.int 2) S = some (.int (h.t : Nat), S) ∧ ixF h.pv (.int 3) S = some (.int (h.d : Nat), S) ∧ ixF h.pv (.int 4) S = some (okP h.k, S) := ⟨rfl, rfl, rfl, rfl, rfl⟩
section
variable {m : Md} {rows : List Rw} {hds : List Hnd} {P : RS → Prop}
theorem oneX_step {n dep aft : Nat} {x : Nat × Option Hnd} {ds ds' : List (Option Nat)} {wt wt' : List Nat} (di : DI n ds wt) (e : oneX dep aft x (ds, wt) = some (ds', wt')) : DI n ds' wt' ∧ cnt ds' + wt'.length = cnt ds + wt.length ∧ ∀ i d : Nat, ds[i]? = some (some d) → ds'[i]? = some (some d) := by
  unfold oneX at e
  split at e
  · cases e
  · split at e
    · rename_i h
      cases e
      have h : ds[x.1]? = some none := h
      refine ⟨di.put h, ?_, fun i d hd => ?_⟩
      · have := cnt_set (v := wantd aft x) h
        show cnt (ds.set x.1 (some (wantd aft x))) + (wt ++ [x.1]).length = _
        rw [List.length_append, List.length_singleton]
        omega
      · have : x.1 ≠ i := fun z => by rw [z, hd] at h; cases h
        show (ds.set x.1 (some (wantd aft x)))[i]? = _
        rw [List.getElem?_set_ne this]; exact hd
    · split at e
      · cases e; exact ⟨di, rfl, fun _ _ h => h⟩
      · cases e
    · cases e
theorem dturnX {R : Option (List (Option Nat))} (hR : EndX R P) {ds : List (Option Nat)} {wt : List Nat} {x : Nat × Option Hnd} {dep aft : Nat} {c h i w y : Option PV} (ht : x.1 < ds.length) (hw : wt.length < 100000)
    (no : oneX dep aft x (ds, wt) = none → R = none)
    (k : ∀ ds' wt', oneX dep aft x (ds, wt) = some (ds', wt') → rsP (.nx [c, h, some (.ref 0), some (.ref 1), i, some (.int (dep : Nat)), w, some (.int (aft : Nat)), some (.int x.1), some (hvP x.2), some (.int (wantd aft x : Nat))] (dst ds' wt')) P) :
    rsP (l3_depths_of [c, h, some (.ref 0), some (.ref 1), i, some (.int (dep : Nat)), w, some (.int (aft : Nat)), some (.int x.1), some (hvP x.2), y] (dst ds wt)) P := by
  obtain ⟨t, ho⟩ := x
  have ht : t < ds.length := ht
  have n1 : (ds.map okd).length = ds.length := List.length_map _
  have n2 : (wt.map fun w : Nat => PV.int (w : Nat)).length = wt.length := List.length_map _
  have rd : L2.atI (ds.map okd) (t : Int) = some (okd ds[t]) := by rw [atI_nat, List.getElem?_map, List.getElem?_eq_getElem ht]; rfl
  have one : ∀ {dp : Bool}, deepX dep ho = dp → oneX dep aft (t, ho) (ds, wt) = if dp = true then none else match ds[t] with
      | none => some (ds.set t (some (wantd aft (t, ho))), wt ++ [t])
      | some d => if d = wantd aft (t, ho) then some (ds, wt) else none := fun e => by
    subst e
    unfold oneX
    simp only [List.getElem?_eq_getElem ht]
    split
    · rfl
    · cases ds[t] <;> rfl
  have fin : ∀ (wn : Nat), wn = wantd aft (t, ho) → deepX dep ho = false → rsP (r2_depths_of [c, h, some (.ref 0), some (.ref 1), i, some (.int (dep : Nat)), w, some (.int (aft : Nat)), some (.int (t : Nat)), some (hvP ho), some (.int (wn : Nat))] (dst ds wt)) P := fun wn hwn hdp => by
    have one := one hdp
    rw [if_neg (by simp)] at one
    unfold r2_depths_of
    cases hd : ds[t] with
    | none =>
      rw [hd] at rd one
      wtm_at "w"
      unfold i1_depths_of
      wtm_at "w"
      refine ⟨_, setF (j := t) rfl (by omega), ?_⟩
      wtm_at "w"
      have := k _ _ one
      subst hwn
      simp only [dst, List.map_set, List.map_append] at this
      exact this
    | some d =>
      rw [hd] at rd one
      wtm_at "w"
      refine Pv.W.kND (fun q => ?_) fun q => ?_
      · wtm_at "w"
        have one : oneX dep aft (t, ho) (ds, wt) = none := by rw [one]; exact if_neg (by omega)
        exact hR (no one) _ _
      · wtm_at "w"
        have one : oneX dep aft (t, ho) (ds, wt) = some (ds, wt) := by rw [one]; exact if_pos (by omega)
        have := k _ _ one
        subst hwn
        exact this
  unfold l3_depths_of
  cases ho with
  | none =>
    wtm_at "w"
    exact fin aft rfl rfl
  | some hn =>
    wtm_at "w"
    unfold i0_depths_of
    wtm_at "w"
    refine Pv.W.kD (fun q => ?_) fun q => ?_
    · wtm_at "w"
      have one : oneX dep aft (t, some hn) (ds, wt) = none := by rw [one (dp := true) (by simp [deepX]; omega)]; rfl
      exact hR (no one) _ _
    · wtm_at "w"
      exact fin hn.d rfl (by simp [deepX]; omega)
end
end Law

/-! X3e: depths_of = runX: the loops. -/
namespace Law
open PySem PySem.Spec PyProof.Rows L2 Pv
section
variable {m : Md} {rows : List Rw} {hds : List Hnd} {P : RS → Prop} {R : Option (List (Option Nat))}
theorem TgtOk.lt {ds : List (Option Nat)} {wt : List Nat} {i : Nat} {r : Rw} (tg : TgtOk rows hds) (hr : rows[i]? = some r) (di : DI rows.length ds wt) {x : Nat × Option Hnd} (hx : x ∈ exits rows.length hds i r.i) : x.1 < ds.length := by rw [di.len]; exact tg i r hr x hx
theorem dinnerX (hm : m ≠ .lent) (hR : EndX R P) {i : Nat} {r : Rw} {ds : List (Option Nat)} {wt : List Nat} {dep : Nat} {w y8 y9 y10 : Option PV} (hr : rows[i]? = some r) (hz : rows.length < 90000) (tg : TgtOk rows hds)
    (di : DI rows.length ds wt) (hc : cnt ds + wt.length < 95000) (no : allX dep (dep - r.i.rem + r.i.push) (exits rows.length hds i r.i) (ds, wt) = none → R = none)
    (k : ∀ ds' wt' y8 y9 y10, DI rows.length ds' wt' → cnt ds' + wt'.length = cnt ds + wt.length → allX dep (dep - r.i.rem + r.i.push) (exits rows.length hds i r.i) (ds, wt) = some (ds', wt') → rsP (.nx (dG m rows hds i dep w (dep - r.i.rem + r.i.push) y8 y9 y10) (dst ds' wt')) P) :
    rsP (sFor (iAny (eCallP f_moves (aCons (eV 0) (aCons (eV 1) (aCons (eV 4) aNil))))) (gU [8, 9]) l3_depths_of (dG m rows hds i dep w (dep - r.i.rem + r.i.push) y8 y9 y10) (dst ds wt)) P := by
  wtm_at "w"
  refine ⟨[codeP rows, hdsM m hds, .int (i : Nat)], .con .own .lst ((exits rows.length hds i r.i).map exP), ?_, moves_okM hm rows hds i r hr (by omega), .own, _, Or.inl rfl, ?_⟩
  · simp only [List.mapM_cons, List.mapM_nil, lend_clean' (clean_code rows), lend_clean' (clean_hp hm hds)]
    rfl
  refine Pv.W.turns exP (fun _ rest Γ S => ∃ ds' wt' y8 y9 y10, Γ = dG m rows hds i dep w (dep - r.i.rem + r.i.push) y8 y9 y10 ∧ S = dst ds' wt' ∧ DI rows.length ds' wt' ∧ cnt ds' + wt'.length = cnt ds + wt.length ∧
    allX dep (dep - r.i.rem + r.i.push) rest (ds', wt') = allX dep (dep - r.i.rem + r.i.push) (exits rows.length hds i r.i) (ds, wt) ∧ ∀ x ∈ rest, x ∈ exits rows.length hds i r.i) ?_ ?_ ⟨ds, wt, y8, y9, y10, rfl, rfl, di, rfl, rfl, fun x h => h⟩
  · rintro d x rest Γ S ⟨ds', wt', z8, z9, z10, rfl, rfl, di', hc', ha, hm'⟩
    refine ⟨dG m rows hds i dep w (dep - r.i.rem + r.i.push) (some (.int x.1)) (some (hvP x.2)) z10, dst ds' wt', rfl, ?_⟩
    refine dturnX (P := fun q => Trn q _ P) (wt := wt') (dep := dep) (aft := dep - r.i.rem + r.i.push) (R := R) (fun e Γ S => hR e Γ S) (tg.lt hr di' (hm' x List.mem_cons_self)) (by omega) (fun e => no (by rw [← ha]; unfold allX; rw [e]; rfl)) fun ds2 wt2 e => ?_
    obtain ⟨d1, d2, _⟩ := oneX_step di' e
    exact ⟨ds2, wt2, _, _, _, rfl, rfl, d1, by omega, by rw [← ha]; show _ = (oneX _ _ x (ds', wt')).bind _; rw [e]; rfl, fun y hy => hm' y (List.mem_cons_of_mem _ hy)⟩
  · rintro d Γ S ⟨ds', wt', z8, z9, z10, rfl, rfl, di', hc', ha, _⟩
    exact k ds' wt' z8 z9 z10 di' hc' ha.symm
theorem dbodyX (hm : m ≠ .lent) (hR : EndX R P) {ds : List (Option Nat)} {wt : List Nat} {i : Nat} {y4 y5 y6 y7 y8 y9 y10 : Option PV} (hz : rows.length < 90000) (tg : TgtOk rows hds)
    (di : DI rows.length ds (wt ++ [i])) (hc : cnt ds + wt.length < 95000) (no : turnX rows hds i (ds, wt) = none → R = none)
    (k : ∀ ds' wt' y4 y5 y6 y7 y8 y9 y10, DI rows.length ds' wt' → cnt ds' + wt'.length = cnt ds + wt.length → turnX rows hds i (ds, wt) = some (ds', wt') → rsP (.nx (dG0 m rows hds y4 y5 y6 y7 y8 y9 y10) (dst ds' wt')) P) :
    rsP (l5_depths_of (dG0 m rows hds y4 y5 y6 y7 y8 y9 y10) (dst ds (wt ++ [i]))) P := by
  obtain ⟨dep, hd⟩ := di.w i (by simp)
  have hi : i < ds.length := (List.getElem?_eq_some_iff.mp hd).1
  have hir : i < rows.length := by rw [← di.len]; exact hi
  obtain ⟨r, hr⟩ : ∃ r, rows[i]? = some r := ⟨rows[i], List.getElem?_eq_getElem hir⟩
  have tu : turnX rows hds i (ds, wt) = if dep < r.i.rem then none else allX dep (dep - r.i.rem + r.i.push) (exits rows.length hds i r.i) (ds, wt) := by
    unfold turnX
    simp only [hr, hd]
  unfold l5_depths_of
  wtm_at "s"
  wtm_at "s"
  wtm_at "s"
  wtm_at "s"
  refine ⟨rfl, Pv.W.nil ⟨.int (i : Nat), dst ds wt, ?_, ?_⟩⟩
  · show lstF _ _ _ _ = _
    unfold lstF
    simp
  have rd : L2.atI (ds.map okd) (i : Int) = some (.int (dep : Nat)) := by rw [atI_nat, List.getElem?_map, hd]; rfl
  have rc : L2.atI (rows.map fun r => r.i.pv) (i : Int) = some r.i.pv := by rw [atI_nat, List.getElem?_map, hr]; rfl
  wtm_at "w"
  refine ⟨_, _, Pv.ixK (k := .tup) (Or.inr rfl) rc, ?_⟩
  wtm_at "w"
  refine ⟨(dep : Nat), (r.i.rem : Nat), rfl, rem_get r.i, ?_⟩
  wtm_at "w"
  refine Pv.W.kD (fun c => ?_) fun c => ?_
  · wtm_at "w"
    exact hR (no (by rw [tu]; exact if_pos (by omega))) _ _
  rw [if_neg (by omega)] at tu
  rw [tu] at no k
  wtm_at "s"
  wtm_at "s"
  unfold r4_depths_of
  wtm_at "ss"
  rw [rem_get]
  refine ⟨_, _, rfl, ?_⟩
  wtm_at "ss"
  rw [push_get]
  refine ⟨_, _, rfl, ?_⟩
  wtm_at "s"
  have ea : ((dep : Int) - (r.i.rem : Nat) + (r.i.push : Nat)) = ((dep - r.i.rem + r.i.push : Nat) : Int) := by omega
  rw [ea]
  exact dinnerX hm hR hr hz tg di.pop hc no fun ds' wt' z8 z9 z10 h1 h2 h3 => k ds' wt' _ _ _ _ z8 z9 z10 h1 h2 h3
theorem dloopX (hm : m ≠ .lent) (hR : EndX R P) {ds : List (Option Nat)} {wt : List Nat} {y4 y5 y6 y7 y8 y9 y10 : Option PV} (hz : rows.length < 90000) (tg : TgtOk rows hds)
    (di : DI rows.length ds wt) (hc : cnt ds + wt.length < 95000) (hrun : runX rows hds (cnt ds + wt.length) (ds, wt) = R)
    (k : ∀ ds' Γ, DI rows.length ds' [] → R = some ds' → Γ[2]? = some (some (.ref 0)) → rsP (.nx Γ (dst ds' [])) P) :
    rsP (sWhl (bT (eV 3)) l5_depths_of (dG0 m rows hds y4 y5 y6 y7 y8 y9 y10) (dst ds wt)) P := by
  refine Pv.W.whl (fun c Γ S => c < 95000 ∧ ∃ ds wt y4 y5 y6 y7 y8 y9 y10, Γ = dG0 m rows hds y4 y5 y6 y7 y8 y9 y10 ∧ S = dst ds wt ∧ DI rows.length ds wt ∧ cnt ds + wt.length = c ∧ runX rows hds c (ds, wt) = R) ?_ ⟨hc, ds, wt, y4, y5, y6, y7, y8, y9, y10, rfl, rfl, di, rfl, hrun⟩ (by omega)
  rintro c Γ S ⟨hc, ds, wt, y4, y5, y6, y7, y8, y9, y10, rfl, rfl, di, e, hrun⟩
  wtm_at "ss"
  rcases List.eq_nil_or_concat wt with rfl | ⟨wt', i, rfl⟩
  · refine ⟨fun _ => k ds _ di ?_ rfl, fun h => by cases h⟩
    rw [← hrun]
    cases c <;> rfl
  · rw [List.concat_eq_append] at di e hrun ⊢
    refine ⟨fun h => by simp at h, fun _ => ?_⟩
    rw [List.length_append, List.length_singleton] at e
    obtain ⟨c, rfl⟩ : ∃ c', c = c' + 1 := ⟨c - 1, by omega⟩
    have hrun : (turnX rows hds i (ds, wt')).bind (runX rows hds c) = R := by
      rw [← hrun]
      conv => rhs; unfold runX
      simp
    refine dbodyX hm (P := fun q => Trn q _ P) (R := R) (fun e Γ S => hR e Γ S) hz tg di (by omega) (fun e => by rw [← hrun, e]; rfl) fun ds' wt' z4 z5 z6 z7 z8 z9 z10 h1 h2 h3 => ?_
    exact ⟨c, by omega, by omega, ds', wt', z4, z5, z6, z7, z8, z9, z10, rfl, rfl, h1, by omega, by rw [← hrun, h3]; rfl⟩
def topX (rows : List Rw) (hds : List Hnd) : Option (List (Option Nat)) := runX rows hds (cnt (ini rows.length) + 1) (ini rows.length, [0])
theorem cnt_ini {n : Nat} (h : 1 ≤ n) : cnt (ini n) ≤ n := by
  have := List.countP_le_length (p := fun x : Option Nat => x.isNone) (l := ini n)
  rw [ini_len h] at this
  exact this
theorem di_ini {n : Nat} (h : 1 ≤ n) : DI n (ini n) [0] := ⟨ini_len h, fun i hi => by simp at hi; subst hi; exact ⟨0, by simp [ini]⟩⟩
theorem dwalkX (hm : m ≠ .lent) (h1 : 1 ≤ rows.length) (h2 : rows.length < 90000) (tg : TgtOk rows hds) (hR : EndX (topX rows hds) P)
    (k : ∀ ds, ds.length = rows.length → topX rows hds = some ds → P (.rt (.con .own .tup (ds.map okd)) (dst ds []))) :
    rsP (body_depths_of [some (codeP rows), some (hdsM m hds), none, none, none, none, none, none, none, none, none] []) P := by
  have hl : (rows.map fun r : Rw => r.i.pv).length = rows.length := List.length_map _
  have z : sizeLine = 16777216 := sizeLine_eq
  have c0 := cnt_ini h1
  unfold body_depths_of
  have hmu : eOp (mulF true) (eLst false (aCons (eC .non) aNil)) (eCall lenF (aCons (eV 0) aNil)) [some (codeP rows), some (hdsM m hds), none, none, none, none, none, none, none, none, none] [] = .ok (.ref 0) [some (.lst, List.replicate rows.length .non)] := by
    have e : mulF true (.con .own .lst [.non]) (.int (rows.length : Nat)) [] = some (.ref 0, [some (.lst, List.replicate rows.length .non)]) := by
      unfold mulF
      simp only [derefH]
      rw [if_pos ⟨by omega, by omega, by simp; omega⟩]
      simp
    have e2 : eCall lenF (aCons (eV 0) aNil) [some (codeP rows), some (hdsM m hds), none, none, none, none, none, none, none, none, none] [] = .ok (.int (rows.length : Nat)) [] := by
      show R.ok (PV.int ((rows.map fun r : Rw => r.i.pv).length : Nat)) [] = _
      rw [hl]
    have e3 : eLst false (aCons (eC .non) aNil) [some (codeP rows), some (hdsM m hds), none, none, none, none, none, none, none, none, none] [] = .ok (.con .own .lst [.non]) [] := by
      simp [szl]
    rw [eOp_eq, e3, opK_ok, e2, opK2_ok, e, rof_some]
  wtm_at "s"
  wtm_at "s"
  with_reducible refine okR.of hmu ?_
  have e0 : (List.replicate rows.length PV.non).set 0 (.int 0) = (ini rows.length).map okd := by
    obtain ⟨w, hw⟩ : ∃ w, rows.length = w + 1 := ⟨rows.length - 1, by omega⟩
    rw [hw]
    simp [ini, List.replicate_succ, okd]
  wtm_at "w"
  refine ⟨_, setF (j := 0) rfl (by rw [List.length_replicate]; omega), ?_⟩
  rw [e0]
  wtm_at "w"
  refine dloopX hm (P := thenS r6_depths_of P) (fun e Γ S => hR e Γ S) h2 tg (ds := ini rows.length) (wt := [0]) (di_ini h1) (by show cnt _ + 1 < _; omega) rfl fun ds' Γ di hr hΓ => ?_
  wtm_at "s"
  unfold r6_depths_of
  refine Pv.W.ret (Pv.W.call (Pv.W.cons (Pv.W.var hΓ (Pv.W.nil ⟨.con .own .tup (ds'.map okd), dst ds' [], rfl, ?_⟩))))
  exact k ds' di.len hr
/-- depths_of, exactly -/
theorem depths_X (hm : m ≠ .lent) (h1 : 1 ≤ rows.length) (h2 : rows.length < 90000) (tg : TgtOk rows hds) :
    (∃ ds, topX rows hds = some ds ∧ ds.length = rows.length ∧ f_depths_of [codeP rows, hdsM m hds] = .ok (depP ds)) ∨ (topX rows hds = none ∧ f_depths_of [codeP rows, hdsM m hds] = .ex "BadDepth" []) := by
  have e : f_depths_of [codeP rows, hdsM m hds] = rupK (body_depths_of [some (codeP rows), some (hdsM m hds), none, none, none, none, none, none, none, none, none] []) := by
    unfold f_depths_of; rw [runP_eq (by rfl)]; rfl
  rw [e]
  refine dwalkX hm (P := fun r => (∃ ds, topX rows hds = some ds ∧ ds.length = rows.length ∧ rupK r = .ok (depP ds)) ∨ (topX rows hds = none ∧ rupK r = .ex "BadDepth" [])) h1 h2 tg (fun e Γ S => Or.inr ⟨e, by rw [rupK_ex]; rfl⟩) fun ds hl hr => Or.inl ⟨ds, hr, hl, by rw [rupK_rt]; exact resP_clean (cleans_okd ds)⟩
end
end Law

/-! X3g: the law's handler_depth. -/
namespace Law
open PySem PySem.Spec PyProof.Rows L2 Pv
section
variable {rows : List Rw} {hds : List Hnd} {a0 a1 a3 y5 : Option PV} {i : Nat} {k : Str} {S : Sto} {P : RS → Prop}
theorem lhd_none (q : ∀ y5, rsP (.nx [a0, a1, some (.int (i : Nat)), a3, some .non, y5] S) P) : ∀ (hds : List Hnd) (y5 : Option PV), rsP (forL (sTurn (gN 5) l0_law_handler_depth) (hvs hds) [a0, a1, some (.int (i : Nat)), a3, some .non, y5] S) P
  | [], y5 => Pv.W.forKN (q y5)
  | x :: hds, y5 => by
    refine Pv.W.forK (okR.of rfl ?_)
    unfold l0_law_handler_depth
    wtm_at "w"
    exact lhd_none q hds _
def hpP (h : Hnd) : PV := .con .own .lst [.int (h.t : Nat), .int (h.d : Nat)]
theorem lhd_loop : ∀ (hds : List Hnd) (y5 : Option PV) (q1 : hds.find? (rcv i k) = none → ∀ y5, rsP (.nx [a0, a1, some (.int (i : Nat)), a3, some (.str k), y5] S) P) (q2 : ∀ h, hds.find? (rcv i k) = some h → P (.rt (hpP h) S)), rsP (forL (sTurn (gN 5) l0_law_handler_depth) (hvs hds) [a0, a1, some (.int (i : Nat)), a3, some (.str k), y5] S) P
  | [], y5, q1, q2 => Pv.W.forKN (q1 rfl y5)
  | ⟨s, e, t, d, kk⟩ :: hds, y5, q1, q2 => by
    refine Pv.W.forK (okR.of rfl ?_)
    have no : rcv i k ⟨s, e, t, d, kk⟩ = false → rsP (forL (sTurn (gN 5) l0_law_handler_depth) (hvs hds) [a0, a1, some (.int (i : Nat)), a3, some (.str k), some (Hnd.mk s e t d kk).pv] S) P := fun z => lhd_loop hds _ (fun h => q1 (by rw [List.find?_cons, z]; exact h)) fun h hh => q2 h (by rw [List.find?_cons, z]; exact hh)
    have yes : rcv i k ⟨s, e, t, d, kk⟩ = true → P (.rt (hpP ⟨s, e, t, d, kk⟩) S) := fun z => q2 _ (by rw [List.find?_cons, z])
    unfold l0_law_handler_depth
    by_cases c1 : s ≤ i
    · by_cases c2 : i < e
      · cases kk with
        | none =>
          wtm_at "w"
          exact yes (by simp [rcv, c1, c2])
        | some w =>
          by_cases c3 : w = k
          · wtm_at "w"
            exact yes (by simp [rcv, c1, c2, c3])
          · wtm_at "w"
            exact no (by simp [rcv, c1, c2, c3])
      · wtm_at "w"
        exact no (by simp [rcv, c2])
    · wtm_at "w"
      exact no (by simp [rcv, c1])
/-- the handler that an instruction may lead to -/
def hdO (hds : List Hnd) (i : Nat) (r : Itr) : Option Hnd := (kindO r).bind fun k => hds.find? (rcv i k)
theorem exH_hd (hds : List Hnd) (i : Nat) (r : Itr) : exH hds i r = match hdO hds i r with
    | some h => [(h.t, some h)]
    | none => [] := by
  unfold exH hdO
  cases kindO r with
  | none => rfl
  | some k =>
    cases h : hds.find? (rcv i k) <;> first | (simp only [Option.bind_some, h]; done) | simp [h] | rfl
theorem lhd_ok {r : Rw} (hr : rows[i]? = some r) {m1 m2 : Md} : f_law_handler_depth [.con m1 .lst (pvs rows), .con m2 .lst (hvs hds), .int (i : Nat)] = .ok (match hdO hds i r.i with | some h => hpP h | none => .non) := by
  obtain ⟨it, l⟩ := r
  have nn : ∀ {a0 a1 a3 : Option PV} {Q : RS → Prop}, hdO hds i it = none → (∀ r, r = .rt .non [] → Q r) → rsP (forL (sTurn (gN 5) l0_law_handler_depth) (hvs hds) [a0, a1, some (.int (i : Nat)), a3, some .non, none] []) (thenS r1_law_handler_depth Q) := fun {a0 a1 a3 Q} _ q => lhd_none (fun y5 => by
    wtm_at "w"
    exact q _ rfl) hds none
  have kk : ∀ {a0 a1 a3 : Option PV} {k : Str} {Q : RS → Prop}, kindO it = some k → (∀ r, (r = .rt (match hdO hds i it with | some h => hpP h | none => .non) []) → Q r) → rsP (forL (sTurn (gN 5) l0_law_handler_depth) (hvs hds) [a0, a1, some (.int (i : Nat)), a3, some (.str k), none] []) (thenS r1_law_handler_depth Q) := fun {a0 a1 a3 k Q} hk q => by
    have e : hdO hds i it = hds.find? (rcv i k) := by unfold hdO; rw [hk]; rfl
    rw [e] at q
    refine lhd_loop hds none (fun hn y5 => ?_) fun h hh => ?_
    · rw [hn] at q
      wtm_at "w"
      exact q _ rfl
    · rw [hh] at q
      exact q _ rfl
  have en : ∀ (v : PV) (q : RS), v = .non ∨ (∃ h, v = hpP h) → q = .rt v [] → ∃ u S, q = .rt u S ∧ resP S u = .ok v := fun v q hv e => by
    refine ⟨v, [], e, ?_⟩
    rcases hv with rfl | ⟨h, rfl⟩
    · rfl
    · rfl
  have vv : (match hdO hds i it with | some h => hpP h | none => .non) = .non ∨ ∃ h, (match hdO hds i it with | some h => hpP h | none => .non) = hpP h := by
    cases hdO hds i it with
    | none => exact Or.inl rfl
    | some h => exact Or.inr ⟨h, rfl⟩
  unfold f_law_handler_depth
  wtm_at "in"
  have n0 : kindO it = none → hdO hds i it = none := fun e => by unfold hdO; rw [e]; rfl
  cases it with
  | op o => cases o <;> (wtm_at "w"; first | exact kk rfl fun r e => en _ _ vv e | exact nn (n0 rfl) fun r e => by rw [n0 rfl]; exact en _ _ (Or.inl rfl) e)
  | ld n => wtm_at "w"; exact kk rfl fun r e => en _ _ vv e
  | fl n => wtm_at "w"; exact kk rfl fun r e => en _ _ vv e
  | _ => wtm_at "w"; exact nn (n0 rfl) fun r e => by rw [n0 rfl]; exact en _ _ (Or.inl rfl) e
end
end Law

/-! X3h: the law's depths = topX. -/
namespace Pv
open PySem PySem.Spec PyProof.Rows L2
theorem forRf_aux {α : Type} {gt : GF} {t : SF} {P : RS → Prop} {r : Nat} {xs : List α} (g : α → PV) (J : List α → List α → Gam → Sto → Prop) (keep : ∀ d rest Γ S, J d rest Γ S → S[r]? = some (some (.lst, xs.map g)))
    (step : ∀ d x rest Γ S, J d (x :: rest) Γ S → ∃ Γ1 S1, gt (g x) Γ S = .ok Γ1 S1 ∧ rsP (t Γ1 S1) fun q => Trn q (J (d ++ [x]) rest) P) (done : ∀ d Γ S, J d [] Γ S → rsP (.nx Γ S) P) : ∀ (rest d : List α) (Γ : Gam) (S : Sto), d ++ rest = xs → J d rest Γ S → rsP (forI (stR r) (sTurn gt t) (rest.length + 1) d.length Γ S) P
  | [], d, Γ, S, e, j => by
    have e0 : stR r S d.length = some none := by
      unfold stR
      rw [keep _ _ _ _ j]
      show some ((xs.map g)[d.length]?) = _
      rw [← e]
      simp
    unfold forI
    rw [e0]
    exact done d Γ S j
  | x :: rest, d, Γ, S, e, j => by
    have e0 : stR r S d.length = some (some (g x)) := by
      unfold stR
      rw [keep _ _ _ _ j]
      show some ((xs.map g)[d.length]?) = _
      rw [← e]
      simp
    obtain ⟨Γ1, S1, e1, q⟩ := step d x rest Γ S j
    have ih := fun Γ S => forRf_aux g J keep step done rest (d ++ [x]) Γ S (by rw [← e]; simp)
    rw [List.length_append, List.length_singleton] at ih
    have et : sTurn gt t (g x) Γ S = t Γ1 S1 := by unfold sTurn; rw [e1]; rfl
    show rsP (forI (stR r) (sTurn gt t) (rest.length + 1 + 1) d.length Γ S) P
    unfold forI
    rw [e0]
    show rsP (match sTurn gt t (g x) Γ S with
      | .nx Γ1 S1 => forI (stR r) (sTurn gt t) (rest.length + 1) (d.length + 1) Γ1 S1
      | .ct Γ1 S1 => forI (stR r) (sTurn gt t) (rest.length + 1) (d.length + 1) Γ1 S1
      | .bk Γ1 S1 => .nx Γ1 S1
      | r => r) P
    rw [et]
    unfold rsP at q ih ⊢
    cases h : t Γ1 S1 <;> rw [h] at q <;> first | exact ih _ _ q | exact q | exact q.elim
/-- a for over a changing list that stays as it is meanwhile -/
theorem W.forRf {α : Type} {gt : GF} {t : SF} {Γ : Gam} {S : Sto} {P : RS → Prop} {j r : Nat} {xs : List α} (g : α → PV) (J : List α → List α → Gam → Sto → Prop) (hj : Γ[j]? = some (some (.ref r))) (keep : ∀ d rest Γ S, J d rest Γ S → S[r]? = some (some (.lst, xs.map g)))
    (step : ∀ d x rest Γ S, J d (x :: rest) Γ S → ∃ Γ1 S1, gt (g x) Γ S = .ok Γ1 S1 ∧ rsP (t Γ1 S1) fun q => Trn q (J (d ++ [x]) rest) P) (done : ∀ d Γ S, J d [] Γ S → rsP (.nx Γ S) P) (h : J [] xs Γ S) : rsP (sFor (iAny (eV j)) gt t Γ S) P := by
  have hr := keep _ _ _ _ h
  have e0 : iAny (eV j) Γ S = .ok (stR r, xs.length + 1) S := by
    have : eV j Γ S = .ok (.ref r) S := by unfold eV; rw [hj]
    unfold iAny
    rw [this]
    show (match walkB S (.ref r) with | some q => R.ok q S | none => .bad) = _
    unfold walkB
    simp only [hr, Option.join_some, List.length_map]
  rw [sFor_eq, e0, forK_ok]
  exact forRf_aux g J keep step done xs [] Γ S rfl h
end Pv
namespace Law
open PySem PySem.Spec PyProof.Rows L2 Pv
theorem allX_app {dep aft : Nat} : ∀ (xs ys : List (Nat × Option Hnd)) (s : StX), allX dep aft (xs ++ ys) s = (allX dep aft xs s).bind (allX dep aft ys)
  | [], ys, s => rfl
  | x :: xs, ys, s => by
    show (oneX dep aft x s).bind (allX dep aft (xs ++ ys)) = ((oneX dep aft x s).bind (allX dep aft xs)).bind _
    cases oneX dep aft x s with
    | none => rfl
    | some s' => exact allX_app xs ys s'
theorem allX_deep {dep aft : Nat} {h : Hnd} (hd : dep < h.d) (xs : List (Nat × Option Hnd)) (s : StX) : allX dep aft (xs ++ [(h.t, some h)]) s = none := by
  rw [allX_app]
  cases allX dep aft xs s with
  | none => rfl
  | some s' =>
    show (oneX dep aft (h.t, some h) s').bind _ = none
    have : oneX dep aft (h.t, some h) s' = none := by unfold oneX; rw [if_pos (by simp [deepX, hd])]
    rw [this]; rfl
def pairP (aft : Nat) (x : Nat × Option Hnd) : PV := .con .own .lst [.int (x.1 : Nat), .int (wantd aft x : Nat)]
abbrev gH (m1 m2 : Md) (rows : List Rw) (hds : List Hnd) (i : Nat) (y5 y6 y7 y8 y9 y10 y11 : Option PV) : Gam := [some (.con m1 .lst (pvs rows)), some (.con m2 .lst (hvs hds)), some (.ref 0), some (.ref 1), some (.int (i : Nat)), y5, y6, y7, y8, y9, y10, y11]
/-- the depths and what waits, in the store -/
structure SX (ds : List (Option Nat)) (wt : List Nat) (S : Sto) : Prop where
  d : S[0]? = some (some (.lst, ds.map okd))
  w : S[1]? = some (some (.lst, ntv wt))
  l : 2 ≤ S.length
section
variable {m1 m2 : Md} {rows : List Rw} {hds : List Hnd} {P : RS → Prop} {R : Option (List (Option Nat))}
def EndL (R : Option (List (Option Nat))) (P : RS → Prop) : Prop := R = none → ∀ S, P (.rt .non S)
theorem okd_at {ds : List (Option Nat)} {t : Nat} {o : Option Nat} (h : ds[t]? = some o) : L2.atI (ds.map okd) (t : Int) = some (okd o) := by rw [atI_nat, List.getElem?_map, h]; rfl
theorem lturn {i : Nat} {y5 y6 y7 y8 y11 : Option PV} {ds : List (Option Nat)} {wt : List Nat} {t wn : Nat} {S : Sto} (hR : R = none → ∀ S, P (.rt .non S)) (x : SX ds wt S) (ht : t < ds.length) (hw : wt.length < 100000)
    (no : (∃ d, ds[t]? = some (some d) ∧ d ≠ wn) → R = none)
    (k1 : ds[t]? = some none → ∀ S', SX (ds.set t (some wn)) (wt ++ [t]) S' → (∀ j, 2 ≤ j → S'[j]? = S[j]?) → rsP (.nx (gH m1 m2 rows hds i y5 y6 y7 y8 (some (.int (t : Nat))) (some (.int (wn : Nat))) y11) S') P)
    (k2 : ds[t]? = some (some wn) → rsP (.nx (gH m1 m2 rows hds i y5 y6 y7 y8 (some (.int (t : Nat))) (some (.int (wn : Nat))) y11) S) P) :
    rsP (l3_law_depths (gH m1 m2 rows hds i y5 y6 y7 y8 (some (.int (t : Nat))) (some (.int (wn : Nat))) y11) S) P := by
  obtain ⟨xd, xw, xl⟩ := x
  have n1 : (ds.map okd).length = ds.length := List.length_map _
  have n2 : (ntv wt).length = wt.length := List.length_map _
  have hd := List.getElem?_eq_getElem ht
  have rd := okd_at hd
  unfold l3_law_depths
  cases hh : ds[t] with
  | none =>
    rw [hh] at rd hd
    wtm_at "w"
    refine ⟨_, setF (j := t) xd (by omega), ?_⟩
    wtm_at "w"
    refine k1 hd _ ⟨?_, ?_, ?_⟩ fun j hj => by rw [List.getElem?_set_ne (by omega), List.getElem?_set_ne (by omega)]
    · rw [List.map_set]
      exact set_get (set_new xd) (by omega)
    · rw [← ntv_one]
      exact set_new (set_get xw (by omega))
    · simp; omega
  | some d =>
    rw [hh] at rd hd
    wtm_at "w"
    refine Pv.W.kND (fun q => ?_) fun q => ?_
    · wtm_at "w"
      exact hR (no ⟨d, hd, by omega⟩) _
    · wtm_at "w"
      have : d = wn := by omega
      subst this
      exact k2 hd
theorem lloop {i c : Nat} {r : Rw} {dep aft : Nat} {y5 y6 y8 y9 y10 y11 : Option PV} (hR : R = none → ∀ S, P (.rt .non S)) {xs : List (Nat × Option Hnd)} {ds : List (Option Nat)} {wt : List Nat} {S : Sto} (x : SX ds wt S) (di : DI rows.length ds wt) (hx : ∀ x ∈ xs, x.1 < rows.length ∧ deepX dep x.2 = false) (hc : cnt ds + wt.length < 90000)
    (c2 : 2 ≤ c) (hS : S[c]? = some (some (.lst, xs.map (pairP aft)))) (no : allX dep aft xs (ds, wt) = none → R = none)
    (k : ∀ ds' wt' S' y9 y10, allX dep aft xs (ds, wt) = some (ds', wt') → SX ds' wt' S' → DI rows.length ds' wt' → cnt ds' + wt'.length = cnt ds + wt.length → rsP (.nx (gH m1 m2 rows hds i y5 y6 (some (.ref c)) y8 y9 y10 y11) S') P) :
    rsP (sFor (iAny (eV 7)) (gU [9, 10]) l3_law_depths (gH m1 m2 rows hds i y5 y6 (some (.ref c)) y8 y9 y10 y11) S) P := by
  refine Pv.W.forRf (pairP aft) (r := c) (xs := xs) (fun d rest Γ S' => ∃ ds' wt' y9 y10, Γ = gH m1 m2 rows hds i y5 y6 (some (.ref c)) y8 y9 y10 y11 ∧ SX ds' wt' S' ∧ S'[c]? = some (some (.lst, xs.map (pairP aft))) ∧ DI rows.length ds' wt' ∧ cnt ds' + wt'.length = cnt ds + wt.length ∧ allX dep aft rest (ds', wt') = allX dep aft xs (ds, wt) ∧ ∀ x ∈ rest, x ∈ xs)
    rfl ?_ ?_ ?_ ⟨ds, wt, y9, y10, rfl, x, hS, di, rfl, rfl, fun _ h => h⟩
  · rintro d rest Γ S' ⟨_, _, _, _, _, _, h, _⟩
    exact h
  · rintro d e rest Γ S' ⟨ds', wt', z9, z10, rfl, x', hS', di', hc', ha, hm⟩
    obtain ⟨h1, h2⟩ := hx e (hm e List.mem_cons_self)
    have hlt : e.1 < ds'.length := by rw [di'.len]; exact h1
    have one : oneX dep aft e (ds', wt') = match ds'[e.1] with
      | none => some (ds'.set e.1 (some (wantd aft e)), wt' ++ [e.1])
      | some d => if d = wantd aft e then some (ds', wt') else none := by
      unfold oneX
      rw [if_neg (by rw [h2]; simp)]
      simp only [List.getElem?_eq_getElem hlt]
      cases ds'[e.1] <;> rfl
    have al : allX dep aft (e :: rest) (ds', wt') = (oneX dep aft e (ds', wt')).bind (allX dep aft rest) := rfl
    refine ⟨gH m1 m2 rows hds i y5 y6 (some (.ref c)) y8 (some (.int (e.1 : Nat))) (some (.int (wantd aft e : Nat))) y11, S', rfl, ?_⟩
    have next : ∀ ds2 wt2 S2, oneX dep aft e (ds', wt') = some (ds2, wt2) → SX ds2 wt2 S2 → S2[c]? = S'[c]? → (fun q => Trn q (fun Γ S' => ∃ ds' wt' y9 y10, Γ = gH m1 m2 rows hds i y5 y6 (some (.ref c)) y8 y9 y10 y11 ∧ SX ds' wt' S' ∧ S'[c]? = some (some (.lst, xs.map (pairP aft))) ∧ DI rows.length ds' wt' ∧ cnt ds' + wt'.length = cnt ds + wt.length ∧ allX dep aft rest (ds', wt') = allX dep aft xs (ds, wt) ∧ ∀ x ∈ rest, x ∈ xs) P) (.nx (gH m1 m2 rows hds i y5 y6 (some (.ref c)) y8 (some (.int (e.1 : Nat))) (some (.int (wantd aft e : Nat))) y11) S2) := fun ds2 wt2 S2 q x2 hq => by
      obtain ⟨d1, d2, _⟩ := oneX_step di' q
      exact ⟨ds2, wt2, _, _, rfl, x2, hq.trans hS', d1, by omega, by rw [← ha, al, q]; rfl, fun z hz => hm z (List.mem_cons_of_mem _ hz)⟩
    refine lturn (P := fun q => Trn q _ P) (R := R) (fun e S => hR e S) x' hlt (by omega) ?_ (fun q S2 x2 fr => next _ _ S2 ?_ x2 (fr c c2)) fun q => next _ _ S' ?_ x' rfl
    · rintro ⟨d, q, hd⟩
      rw [List.getElem?_eq_getElem hlt] at q
      have q := Option.some.inj q
      refine no ?_
      rw [← ha, al, one, q]
      simp only [if_neg hd]
      rfl
    · rw [List.getElem?_eq_getElem hlt] at q
      rw [one, Option.some.inj q]
    · rw [List.getElem?_eq_getElem hlt] at q
      rw [one, Option.some.inj q]
      simp
  · rintro d Γ S' ⟨ds', wt', z9, z10, rfl, x', hS', di', hc', ha, _⟩
    exact k ds' wt' S' z9 z10 ha.symm x' di' hc'
end
end Law

/-! X3i: the law's depths: a turn. -/
namespace Law
open PySem PySem.Spec PyProof.Rows L2 Pv
theorem lastIn (i : Itr) : ([PV.str "fail", .str "jump", .str "end"].any fun y => eqP y (.str (nm i))) = i.last := by
  have h : some (PV.bl ([PV.str "fail", .str "jump", .str "end"].any fun y => eqP y (.str (nm i))), ([] : Sto)) = some (.bl (decide (nm i ∈ c_LAST)), []) := inF_strs (S := []) (m := .own) (k := .tup) (Or.inr rfl) (nm i) c_LAST
  rw [← nm_last]
  have h := congrArg Prod.fst (Option.some.inj h)
  exact PV.bl.inj h
theorem change_ok (i : Itr) : f_law_change [i.pv] = .ok (.con .own .lst [.int (i.rem : Nat), .int ((i.push : Int) - (i.rem : Nat))]) := by
  cases i with
  | op o => cases o <;> rfl
  | _ => rfl
/-- whatever goes on, goes on within -/
def NxOk (rows : List Rw) : Prop := ∀ i r, rows[i]? = some r → r.i.last = false → i + 1 < rows.length
section
variable {m1 m2 : Md} {rows : List Rw} {hds : List Hnd} {P : RS → Prop} {R : Option (List (Option Nat))}
theorem lpop {i : Nat} {y4 y5 y6 y7 y8 y9 y10 y11 : Option PV} {ds : List (Option Nat)} {wt : List Nat} {S : Sto} {r : Rw} {dep : Nat} (hR : R = none → ∀ S, P (.rt .non S)) (x : SX ds (wt ++ [i]) S) (hr : rows[i]? = some r) (hd : ds[i]? = some (some dep))
    (no : dep < r.i.rem → R = none)
    (k : r.i.rem ≤ dep → ∀ S', SX ds wt S' → rsP (r7_law_depths (gH m1 m2 rows hds i (some (.int (r.i.rem : Nat))) (some (.int ((r.i.push : Int) - (r.i.rem : Nat)))) y7 y8 y9 y10 y11) S') P) :
    rsP (l8_law_depths [some (.con m1 .lst (pvs rows)), some (.con m2 .lst (hvs hds)), some (.ref 0), some (.ref 1), y4, y5, y6, y7, y8, y9, y10, y11] S) P := by
  obtain ⟨xd, xw, xl⟩ := x
  rw [← ntv_one] at xw
  have rd := okd_at hd
  unfold l8_law_depths
  wtm_at "w"
  refine ⟨[r.i.pv], _, lends_ok (by simp only [List.mem_cons, List.not_mem_nil, or_false, forall_eq]; exact clean_itr _), change_ok r.i, ?_⟩
  have xd' : (S.set 1 (some (Kd.lst, ntv wt)))[0]? = some (some (.lst, ds.map okd)) := set_get xd (by omega)
  have xw' : (S.set 1 (some (Kd.lst, ntv wt)))[1]? = some (some (.lst, ntv wt)) := set_new xw
  have xl' : 2 ≤ (S.set 1 (some (Kd.lst, ntv wt))).length := by rw [List.length_set]; exact xl
  generalize (S.set 1 (some (Kd.lst, ntv wt))) = S' at *
  wtm_at "w"
  refine Pv.W.kD (fun q => ?_) fun q => ?_
  · wtm_at "w"
    exact hR (no (by omega)) _
  · wtm_at "s"
    wtm_at "s"
    exact k (by omega) _ ⟨xd', xw', xl'⟩
theorem lpairs {i : Nat} {y7 y8 y9 y10 y11 : Option PV} {ds : List (Option Nat)} {wt : List Nat} {S : Sto} {r : Rw} {dep : Nat} (hz : rows.length ≤ 200) (nx : NxOk rows) (x : SX ds wt S) (hr : rows[i]? = some r) (hd : ds[i]? = some (some dep)) (hrem : r.i.rem ≤ dep)
    (k : ∀ S' c, SX ds wt S' → 2 ≤ c → S'[c]? = some (some (.lst, (exN rows.length i r.i ++ exJ r.i).map (pairP (dep - r.i.rem + r.i.push)))) → rsP (r5_law_depths (gH m1 m2 rows hds i (some (.int (r.i.rem : Nat))) (some (.int ((r.i.push : Int) - (r.i.rem : Nat)))) (some (.ref c)) y8 y9 y10 y11) S') P) :
    rsP (r7_law_depths (gH m1 m2 rows hds i (some (.int (r.i.rem : Nat))) (some (.int ((r.i.push : Int) - (r.i.rem : Nat)))) y7 y8 y9 y10 y11) S) P := by
  obtain ⟨xd, xw, xl⟩ := x
  have rd := okd_at hd
  have ea : (dep : Int) + ((r.i.push : Int) - (r.i.rem : Nat)) = ((dep - r.i.rem + r.i.push : Nat) : Int) := by omega
  have yd : (S ++ [some (Kd.lst, ([] : List PV))])[0]? = some (some (.lst, ds.map okd)) := app_get xd
  have yw : (S ++ [some (Kd.lst, ([] : List PV))])[1]? = some (some (.lst, ntv wt)) := app_get xw
  have yc : (S ++ [some (Kd.lst, ([] : List PV))])[S.length]? = some (some (.lst, [])) := app_new rfl
  have yl : 2 ≤ (S ++ [some (Kd.lst, ([] : List PV))]).length := by simp; omega
  have second : ∀ (L : List (Nat × Option Hnd)) (S' : Sto), L.length ≤ 5 → SX ds wt S' → S'[S.length]? = some (some (.lst, L.map (pairP (dep - r.i.rem + r.i.push)))) → L = exN rows.length i r.i → rsP (r6_law_depths (gH m1 m2 rows hds i (some (.int (r.i.rem : Nat))) (some (.int ((r.i.push : Int) - (r.i.rem : Nat)))) (some (.ref S.length)) y8 y9 y10 y11) S') P := fun L S' hL x' yc' e => by
    subst e
    have n1 : ((exN rows.length i r.i).map (pairP (dep - r.i.rem + r.i.push))).length < 1000000 := by rw [List.length_map]; omega
    obtain ⟨xd, xw, xl'⟩ := x'
    have k' : ∀ S', SX ds wt S' → S'[S.length]? = some (some (.lst, (exN rows.length i r.i ++ exJ r.i).map (pairP (dep - r.i.rem + r.i.push)))) → rsP (.nx (gH m1 m2 rows hds i (some (.int (r.i.rem : Nat))) (some (.int ((r.i.push : Int) - (r.i.rem : Nat)))) (some (.ref S.length)) y8 y9 y10 y11) S') (thenS r5_law_depths P) := fun S' a1 a2 => Pv.W.go (k S' S.length a1 xl a2)
    refine Pv.W.seq ?_
    generalize thenS r5_law_depths P = Q at k' ⊢
    wtm_at "w"
    rw [jinL]
    cases ht : r.i.tgt with
    | none =>
      wtm_at "w"
      refine k' _ ⟨xd, xw, xl'⟩ ?_
      unfold exJ
      rw [ht, List.append_nil]
      exact yc'
    | some t =>
      wtm_at "w"
      refine k' _ ⟨set_get xd (by omega), set_get xw (by omega), by rw [List.length_set]; exact xl'⟩ ?_
      unfold exJ
      rw [ht, List.map_append, ea]
      exact set_new yc'
  have s0 : rsP (.nx (gH m1 m2 rows hds i (some (.int (r.i.rem : Nat))) (some (.int ((r.i.push : Int) - (r.i.rem : Nat)))) (some (.ref S.length)) y8 y9 y10 y11) (S ++ [some (Kd.lst, ([] : List PV))])) (thenS r6_law_depths P) ∨ r.i.last = false := by
    cases hl : r.i.last with
    | false => exact Or.inr rfl
    | true => exact Or.inl (Pv.W.go (second [] _ (by simp) ⟨yd, yw, yl⟩ yc (by unfold exN; rw [if_neg (by rw [hl]; simp)])))
  have s1 : r.i.last = false → ∀ S', SX ds wt S' → S'[S.length]? = some (some (.lst, [pairP (dep - r.i.rem + r.i.push) (i + 1, none)])) → rsP (.nx (gH m1 m2 rows hds i (some (.int (r.i.rem : Nat))) (some (.int ((r.i.push : Int) - (r.i.rem : Nat)))) (some (.ref S.length)) y8 y9 y10 y11) S') (thenS r6_law_depths P) := fun hl S' a1 a2 =>
    Pv.W.go (second [(i + 1, none)] S' (by simp) a1 a2 (by unfold exN; rw [if_pos ⟨hl, nx i r hr hl⟩]))
  refine Pv.W.seq (Pv.W.set ?_)
  wtm_at "s"
  wtm_at "s"
  wtm_at "s"
  refine Pv.W.seq ?_
  generalize thenS r6_law_depths P = Q at s0 s1 ⊢
  wtm_at "w"
  rw [lastIn]
  cases hl : r.i.last with
  | true =>
    wtm_at "w"
    exact s0.resolve_right (by rw [hl]; simp)
  | false =>
    wtm_at "w"
    refine ⟨_, _, appF yc (by simp), ?_⟩
    rw [ea]
    exact s1 hl _ ⟨set_get yd (by omega), set_get yw (by omega), by rw [List.length_set]; exact yl⟩ (set_new yc)
theorem lthird {i : Nat} {r : Rw} {y9 y10 y11 y8 : Option PV} {ds : List (Option Nat)} {wt : List Nat} {S : Sto} {dep c : Nat} (hR : R = none → ∀ S, P (.rt .non S)) (hz : rows.length ≤ 200) (tg : TgtOk rows hds) (nx : NxOk rows) (x : SX ds wt S) (hr : rows[i]? = some r) (hd : ds[i]? = some (some dep)) (di : DI rows.length ds wt) (hn : cnt ds + wt.length < 80000)
    (hc : 2 ≤ c) (hp : S[c]? = some (some (.lst, (exN rows.length i r.i ++ exJ r.i).map (pairP (dep - r.i.rem + r.i.push))))) (hl : ∀ S : Sto, [PV.con m1 .lst (pvs rows), .con m2 .lst (hvs hds), .int (i : Nat)].mapM (lendV S) = some [.con m1 .lst (pvs rows), .con m2 .lst (hvs hds), .int (i : Nat)])
    (no : allX dep (dep - r.i.rem + r.i.push) (exits rows.length hds i r.i) (ds, wt) = none → R = none)
    (k : ∀ ds' wt' S' y7 y8 y9 y10, allX dep (dep - r.i.rem + r.i.push) (exits rows.length hds i r.i) (ds, wt) = some (ds', wt') → SX ds' wt' S' → DI rows.length ds' wt' → cnt ds' + wt'.length = cnt ds + wt.length → rsP (.nx (gH m1 m2 rows hds i (some (.int (r.i.rem : Nat))) (some (.int ((r.i.push : Int) - (r.i.rem : Nat)))) y7 y8 y9 y10 y11) S') P) :
    rsP (r5_law_depths (gH m1 m2 rows hds i (some (.int (r.i.rem : Nat))) (some (.int ((r.i.push : Int) - (r.i.rem : Nat)))) (some (.ref c)) y8 y9 y10 y11) S) P := by
  obtain ⟨xd, xw, xl⟩ := x
  have rd := okd_at hd
  have len3 : (exits rows.length hds i r.i).length ≤ 3 := by
    have h1 : (exN rows.length i r.i).length ≤ 1 := by unfold exN; split <;> simp
    have h2 : (exJ r.i).length ≤ 1 := by unfold exJ; split <;> simp
    have h3 : (exH hds i r.i).length ≤ 1 := by
      rw [exH_hd]
      split <;> simp
    unfold exits
    rw [List.length_append, List.length_append]
    omega
  wtm_at "w"
  refine ⟨_, _, hl _, lhd_ok hr, ?_⟩
  have ex := exH_hd hds i r.i
  have hex : exits rows.length hds i r.i = exN rows.length i r.i ++ exJ r.i ++ exH hds i r.i := rfl
  have np : ∀ x ∈ exN rows.length i r.i ++ exJ r.i, x.2 = none := fun x hx => by
    rcases List.mem_append.mp hx with hx | hx
    · unfold exN at hx
      split at hx <;> simp at hx
      rw [hx]
    · unfold exJ at hx
      split at hx <;> simp at hx
      rw [hx]
  have din : ∀ x ∈ exN rows.length i r.i ++ exJ r.i, x.1 < rows.length ∧ deepX dep x.2 = false := fun x hx => ⟨tg i r hr x (by rw [hex]; exact List.mem_append_left _ hx), by rw [np x hx]; rfl⟩
  have fin : ∀ (xs : List (Nat × Option Hnd)) (S' : Sto) (y8 : Option PV), exits rows.length hds i r.i = xs → SX ds wt S' → S'[c]? = some (some (.lst, xs.map (pairP (dep - r.i.rem + r.i.push)))) → (∀ x ∈ xs, x.1 < rows.length ∧ deepX dep x.2 = false) → rsP (.nx (gH m1 m2 rows hds i (some (.int (r.i.rem : Nat))) (some (.int ((r.i.push : Int) - (r.i.rem : Nat)))) (some (.ref c)) y8 y9 y10 y11) S') (thenS r4_law_depths P) := fun xs S' y8 e x' hS' hx => by
    rw [e] at no k
    exact Pv.W.go (lloop (dep := dep) (r := r) hR x' di hx (by omega) hc hS' no fun ds' wt' S' y9 y10 a1 a2 a3 a4 => k ds' wt' S' _ y8 y9 y10 a1 a2 a3 a4)
  have bad : exits rows.length hds i r.i ≠ exN rows.length i r.i ++ exJ r.i → True := fun _ => trivial
  wtm_at "s"
  wtm_at "s"
  generalize hQ : thenS r4_law_depths P = Q at fin ⊢
  cases hh : hdO hds i r.i with
  | none =>
    rw [hh] at ex
    wtm_at "w"
    exact fin (exN rows.length i r.i ++ exJ r.i) S _ (by rw [hex, ex, List.append_nil]) ⟨xd, xw, xl⟩ hp din
  | some h =>
    rw [hh] at ex
    have n3 : ((exN rows.length i r.i ++ exJ r.i).map (pairP (dep - r.i.rem + r.i.push))).length < 1000000 := by
      rw [hex, List.length_append] at len3
      rw [List.length_map]; omega
    wtm_at "w"
    refine Pv.W.kD (fun q => ?_) fun q => ?_
    · wtm_at "w"
      subst hQ
      exact hR (no (by rw [hex, ex]; exact allX_deep (by omega) _ _)) _
    · wtm_at "w"
      refine fin (exN rows.length i r.i ++ exJ r.i ++ [(h.t, some h)]) _ _ (by rw [hex, ex]) ⟨set_get xd (by omega), set_get xw (by omega), by rw [List.length_set]; exact xl⟩ (by rw [show (exN rows.length i r.i ++ exJ r.i ++ [(h.t, some h)]).map (pairP (dep - r.i.rem + r.i.push)) = (exN rows.length i r.i ++ exJ r.i).map (pairP (dep - r.i.rem + r.i.push)) ++ [hpP h] from List.map_append]; exact set_new hp) fun x hx => ?_
      rcases List.mem_append.mp hx with hx | hx
      · exact din x hx
      · have : x = (h.t, some h) := by simpa using hx
        subst this
        exact ⟨tg i r hr _ (by rw [hex, ex]; simp), by simp [deepX]; omega⟩
end
end Law

/-! X3j: the law's depths = topX: the whole. -/
namespace Law
open PySem PySem.Spec PyProof.Rows L2 Pv
section
variable {m1 m2 : Md} {rows : List Rw} {hds : List Hnd}
/-- a new changing list of what a comprehension makes of things that stand still -/
theorem W.lcT {Γ : Gam} {S : Sto} {it : IF} {tt : BF} {te : EF} {i : Nat} {ps : List PV} {Q : PV → Sto → Prop} (q : PV → Bool) (m : PV → PV) (hi : it Γ S = .ok (stL ps, ps.length + 1) S) (hz : ps.length < 1000000)
    (ht : ∀ p ∈ ps, okR (tt ((wipeG Γ [i]).set i (some p)) S) fun b S' => b = q p ∧ S' = S) (he : ∀ p ∈ ps, q p = true → okR (te ((wipeG Γ [i]).set i (some p)) S) fun v S' => v = m p ∧ S' = S) (h : Q (.ref S.length) (S ++ [some (.lst, (ps.filter q).map m)])) :
    okR (eLc true it (gN i) tt te [i] Γ S) Q := by
  obtain ⟨v, S1, e1, rfl, rfl⟩ := (W.lcF (Q := fun v S1 => v = .con .own .lst ((ps.filter q).map m) ∧ S1 = S) q m hi hz ht he ⟨rfl, rfl⟩).eq
  have e2 : eLc true it (gN i) tt te [i] Γ S1 = .ok (.ref S1.length) (S1 ++ [some (.lst, (ps.filter q).map m)]) := by
    unfold eLc at e1 ⊢
    rw [hi] at e1 ⊢
    have e1 : ((lcI (stL ps) (gN i) tt te (wipeG Γ [i]) (ps.length + 1) 0 [] S1).bind fun acc S2 => R.ok (newP false .lst acc S2).1 (newP false .lst acc S2).2) = _ := e1
    show ((lcI (stL ps) (gN i) tt te (wipeG Γ [i]) (ps.length + 1) 0 [] S1).bind fun acc S2 => R.ok (newP true .lst acc S2).1 (newP true .lst acc S2).2) = _
    cases h : lcI (stL ps) (gN i) tt te (wipeG Γ [i]) (ps.length + 1) 0 [] S1 with
    | ok acc S2 =>
      rw [h] at e1
      have e1 : R.ok (PV.con .own .lst acc) S2 = .ok (.con .own .lst ((ps.filter q).map m)) S1 := e1
      cases e1
      rfl
    | ex c fs S2 => rw [h] at e1; cases e1
    | bad => rw [h] at e1; cases e1
  exact okR.of e2 h
theorem pvs_cl (rows : List Rw) : cleans (pvs rows) = true := cleans_of fun k v h => by
  unfold pvs at h
  rw [List.getElem?_map] at h
  obtain ⟨r, _, rfl⟩ := Option.map_eq_some_iff.mp h
  exact clean_itr _
theorem topX_len {ds : List (Option Nat)} (h : topX rows hds = some ds) (h1 : 1 ≤ rows.length) (tg : TgtOk rows hds) (hz : rows.length < 90000) : ds.length = rows.length := by
  rcases depths_X (m := .own) (by decide) h1 hz tg with ⟨ds', e, l, _⟩ | ⟨e, _⟩
  · rw [h] at e; cases e; exact l
  · rw [h] at e; cases e
theorem ldepths_ok (h1 : 1 ≤ rows.length) (hz : rows.length ≤ 200) (tg : TgtOk rows hds) (nx : NxOk rows) :
    f_law_depths [.con m1 .lst (pvs rows), .con m2 .lst (hvs hds)] = .ok (match topX rows hds with | some ds => depP ds | none => .non) := by
  have n1 : (pvs rows).length = rows.length := List.length_map _
  have c0 := cnt_ini h1
  unfold f_law_depths
  wtm_at "in"
  wtm_at "s"
  wtm_at "s"
  with_reducible refine W.lcT (ps := pvs rows) (fun _ => true) (fun _ => .non) rfl (by omega) (fun p hp => ?_) (fun p hp hq => ?_) ?_
  · exact ⟨rfl, rfl⟩
  · exact ⟨rfl, rfl⟩
  have e0 : (((pvs rows).filter fun _ => true).map fun _ => PV.non).set 0 (.int 0) = (ini rows.length).map okd := by
    rw [List.filter_eq_self.mpr (by simp)]
    unfold pvs
    rw [List.map_map]
    obtain ⟨x, rows', e⟩ : ∃ x rows', rows = x :: rows' := by
      cases rows with
      | nil => simp at h1
      | cons x r => exact ⟨x, r, rfl⟩
    subst e
    simp only [ini, okd, List.map_cons, List.set_cons_zero, List.length_cons, Nat.add_sub_cancel, List.map_replicate]
    rw [show ((fun _ => PV.non) ∘ fun r : Rw => r.i.pv) = fun _ => PV.non from rfl, List.map_const']
    rfl
  wtm_at "w"
  refine ⟨_, setF (j := 0) rfl (by rw [List.filter_eq_self.mpr (by simp), List.length_map]; omega), ?_⟩
  rw [e0]
  have hl : ∀ (i : Nat) (S : Sto), [PV.con m1 .lst (pvs rows), .con m2 .lst (hvs hds), .int (i : Nat)].mapM (lendV S) = some [.con m1 .lst (pvs rows), .con m2 .lst (hvs hds), .int (i : Nat)] := fun i S => by
    simp only [List.mapM_cons, List.mapM_nil, lendK (pvs_cl rows), lendK (show cleans (hvs hds) = true from cleans_hnds hds)]
    rfl
  wtm_at "w"
  refine Pv.W.whl (fun c Γ S => c < 70000 ∧ ∃ ds wt y4 y5 y6 y7 y8 y9 y10 y11, Γ = [some (.con m1 .lst (pvs rows)), some (.con m2 .lst (hvs hds)), some (.ref 0), some (.ref 1), y4, y5, y6, y7, y8, y9, y10, y11] ∧ SX ds wt S ∧ DI rows.length ds wt ∧ cnt ds + wt.length = c ∧ runX rows hds c (ds, wt) = topX rows hds) ?_
    ⟨by omega, ini rows.length, [0], none, none, none, none, none, none, none, none, rfl, ⟨rfl, rfl, by simp⟩, di_ini h1, rfl, rfl⟩ (m := cnt (ini rows.length) + 1) (by omega)
  rintro c Γ S ⟨hc, ds, wt, y4, y5, y6, y7, y8, y9, y10, y11, rfl, x, di, e, hrun⟩
  have xw := x.w
  wtm_at "w"
  have hw : (ntv wt).length = wt.length := List.length_map _
  rcases List.eq_nil_or_concat wt with rfl | ⟨wt', i, rfl⟩
  · refine ⟨fun _ => ?_, fun h => by simp [ntv] at h⟩
    have ht : topX rows hds = some ds := by
      rw [← hrun]
      cases c <;> rfl
    rw [ht]
    have xd := x.d
    wtm_at "s"
    wtm_at "s"
    wtm_at "s"
    wtm_at "ss"
    refine ⟨_, _, tupR xd, ?_⟩
    exact ⟨_, _, rfl, resP_clean (cleans_okd ds)⟩
  · rw [List.concat_eq_append] at di e hrun x xw ⊢
    refine ⟨fun h => by simp [ntv] at h, fun _ => ?_⟩
    rw [List.length_append, List.length_singleton] at e
    obtain ⟨c, rfl⟩ : ∃ c', c = c' + 1 := ⟨c - 1, by omega⟩
    have hrun : (turnX rows hds i (ds, wt')).bind (runX rows hds c) = topX rows hds := by
      rw [← hrun]
      conv => rhs; unfold runX
      simp
    obtain ⟨dep, hd⟩ := di.w i (by simp)
    have hi : i < ds.length := (List.getElem?_eq_some_iff.mp hd).1
    have hir : i < rows.length := by rw [← di.len]; exact hi
    obtain ⟨r, hr⟩ : ∃ r, rows[i]? = some r := ⟨rows[i], List.getElem?_eq_getElem hir⟩
    have tu : turnX rows hds i (ds, wt') = if dep < r.i.rem then none else allX dep (dep - r.i.rem + r.i.push) (exits rows.length hds i r.i) (ds, wt') := by
      unfold turnX
      simp only [hr, hd]
    have hR : ∀ {N : Gam → Sto → Prop}, topX rows hds = none → ∀ S, (fun q => Trn q N (thenS r9_law_depths fun r => ∃ u S, r = RS.rt u S ∧ resP S u = RP.ok (match topX rows hds with | some ds => depP ds | none => PV.non))) (.rt .non S) := fun e S => by
      rw [e]
      exact ⟨_, _, rfl, rfl⟩
    refine lpop (P := fun q => Trn q _ _) (R := topX rows hds) hR x hr hd (fun hlt => ?_) fun hge S2 x2 => ?_
    · rw [← hrun, tu, if_pos hlt]; rfl
    rw [if_neg (by omega)] at tu
    refine lpairs hz nx x2 hr hd hge fun S3 cc x3 hcc hp => ?_
    refine lthird (P := fun q => Trn q _ _) (R := topX rows hds) hR hz tg nx x3 hr hd di.pop (by omega) hcc hp (hl i) (fun hn => ?_) fun ds' wt2 S4 z7 z8 z9 z10 ha x4 di4 hc4 => ?_
    · rw [← hrun, tu, hn]; rfl
    · exact ⟨c, by omega, by omega, ds', wt2, _, _, _, _, _, _, _, _, rfl, x4, di4, by omega, by rw [← hrun, tu, ha]; rfl⟩
end
end Law

/-! Ld: lists of drawn things. -/
namespace Law
open PySem PySem.Spec PyProof.Rows L2 Pv
theorem lcDraw_eq {Γ : Gam} {S : Sto} {as : AF} {i m : Nat} {te : EF} (P : Sto → Prop) (C : PV → Prop) {S1 : Sto} (e : as Γ S = .ok [.int (m : Nat)] S1) (h1 : m < 1000000) (p : P S1) (ht : ∀ x S, P S → okR (te ((wipeG Γ [i]).set i (some x)) S) fun v S' => P S' ∧ C v) :
    ∃ us S2, P S2 ∧ (∀ v ∈ us, C v) ∧ us.length = m ∧ eLc true (iR1 as) (gN i) bYes te [i] Γ S = .ok (.ref S2.length) (S2 ++ [some (Kd.lst, us)]) ∧ eLc false (iR1 as) (gN i) bYes te [i] Γ S = .ok (.con .own .lst us) S2 := by
  have z : sizeLine = 16777216 := sizeLine_eq
  have hlen : (intsF 0 m).length = m := intsF_len
  obtain ⟨us, S2, e1, p2, q2, l2⟩ := lcL_inv (f := lcT (gN i) bYes te (wipeG Γ [i])) P C (intsF 0 m) [] S1 (fun x _ S pS => by
    obtain ⟨v, S', e3, p3, c3⟩ := (ht x S pS).eq
    refine ⟨v, S', ?_, p3, c3⟩
    unfold lcT
    rw [gN_eq]
    show (match te _ S with | .ok v S3 => R.ok (some v) S3 | _ => .bad) = _
    rw [e3]) p (by rw [hlen]; simp; omega)
  rw [List.nil_append] at e1
  refine ⟨us, S2, p2, q2, by rw [l2, hlen], ?_, ?_⟩
  · rw [eLc_eq, iR1_eq, e, r1K_ok ⟨by omega, by omega⟩, Int.toNat_natCast, lcK_L, e1, lcK2_t]
  · rw [eLc_eq, iR1_eq, e, r1K_ok ⟨by omega, by omega⟩, Int.toNat_natCast, lcK_L, e1, lcK2_f]
/-- a changing list of drawn things -/
theorem W.lcDraw {Γ : Gam} {S : Sto} {as : AF} {i m : Nat} {te : EF} {Q : PV → Sto → Prop} (P : Sto → Prop) (C : PV → Prop) (h : okR (as Γ S) fun vs S1 => vs = [.int (m : Nat)] ∧ m < 1000000 ∧ P S1 ∧ (∀ x S, P S → okR (te ((wipeG Γ [i]).set i (some x)) S) fun v S' => P S' ∧ C v) ∧ ∀ vs S2, P S2 → (∀ v ∈ vs, C v) → vs.length = m → Q (.ref S2.length) (S2 ++ [some (Kd.lst, vs)])) : okR (eLc true (iR1 as) (gN i) bYes te [i] Γ S) Q := by
  obtain ⟨vs, S1, e, rfl, h1, p, ht, q⟩ := h.eq
  obtain ⟨us, S2, a1, a2, a3, a4, _⟩ := lcDraw_eq P C e h1 p ht
  exact okR.of a4 (q us S2 a1 a2 a3)
/-- a list of drawn things that stays -/
theorem W.lcDrawF {Γ : Gam} {S : Sto} {as : AF} {i m : Nat} {te : EF} {Q : PV → Sto → Prop} (P : Sto → Prop) (C : PV → Prop) (h : okR (as Γ S) fun vs S1 => vs = [.int (m : Nat)] ∧ m < 1000000 ∧ P S1 ∧ (∀ x S, P S → okR (te ((wipeG Γ [i]).set i (some x)) S) fun v S' => P S' ∧ C v) ∧ ∀ vs S2, P S2 → (∀ v ∈ vs, C v) → vs.length = m → Q (.con .own .lst vs) S2) : okR (eLc false (iR1 as) (gN i) bYes te [i] Γ S) Q := by
  obtain ⟨vs, S1, e, rfl, h1, p, ht, q⟩ := h.eq
  obtain ⟨us, S2, a1, a2, a3, _, a4⟩ := lcDraw_eq P C e h1 p ht
  exact okR.of a4 (q us S2 a1 a2 a3)
theorem zipRw : ∀ (its : List Itr) (ls : List Nat), its.length = ls.length → ∃ rows : List Rw, rows.map Rw.i = its ∧ rows.map Rw.l = ls
  | [], [], _ => ⟨[], rfl, rfl⟩
  | [], _ :: _, h => by simp at h
  | _ :: _, [], h => by simp at h
  | i :: its, l :: ls, h => by
    obtain ⟨rows, h1, h2⟩ := zipRw its ls (by simpa using h)
    exact ⟨⟨i, l⟩ :: rows, by simp [h1], by simp [h2]⟩
theorem lns_set {rows : List Rw} {k : Nat} {i : Itr} {l : Nat} : (lns rows).set k (.int (l : Nat)) = lns (rows.set k ⟨i, l⟩) := by
  unfold lns; rw [List.map_set]
theorem pvs_set {rows : List Rw} {k : Nat} {i : Itr} {l : Nat} : (pvs rows).set k i.pv = pvs (rows.set k ⟨i, l⟩) := by
  unfold pvs; rw [List.map_set]
/-- an instruction of a program of n -/
def WI (n : Nat) (i : Itr) : Prop := i.good ∧ ∀ t, i.tgt = some t → t < n
def WH (n : Nat) (h : Hnd) : Prop := h.good ∧ h.s < h.e ∧ h.e ≤ n ∧ h.t < n ∧ h.d ≤ 200
end Law

/-! R1: rows of which a unit can be asked for (whatever the depths). -/
namespace Law
open PySem PySem.Spec PyProof.Rows L2 Pv
structure Raw (rows : List Rw) (hds : List Hnd) : Prop where
  len : rows.length ≤ 199
  pos : 0 < rows.length
  good : ∀ (j : Nat) (r : Rw), rows[j]? = some r → r.good
  nxt : ∀ (j : Nat) (r : Rw), rows[j]? = some r → r.i.last = false → j + 1 < rows.length
  tgt : ∀ (j : Nat) (r : Rw), rows[j]? = some r → ∀ t, r.i.tgt = some t → t < rows.length
  hd : ∀ h ∈ hds, h.good ∧ h.s < h.e ∧ h.e ≤ rows.length ∧ h.t < rows.length ∧ h.d ≤ 200
  few : hds.length < 900
section
variable {rows : List Rw} {hds : List Hnd}
theorem Raw.kv (s : Raw rows hds) {x : Hnd} (h : x ∈ hds) : KV (okP x.k) true := .ok x.k (s.hd x h).1
def Raw.vals (s : Raw rows hds) : Vals where
  cs := pvs rows
  ls := lns rows
  hs := hvs hds
  cb := fun _ => true
  lb := fun _ => true
  hb := fun _ => true
  hc := fun k v h => by
    unfold pvs at h
    rw [List.getElem?_map] at h
    obtain ⟨r, hr, rfl⟩ := Option.map_eq_some_iff.mp h
    exact .ok r.i (s.good k r hr).1
  hl := fun k v h => by
    unfold lns at h
    rw [List.getElem?_map] at h
    obtain ⟨r, hr, rfl⟩ := Option.map_eq_some_iff.mp h
    exact .ok r.l (s.good k r hr).2
  hh := fun k v h => by
    unfold hvs at h
    rw [List.getElem?_map] at h
    obtain ⟨x, hx, rfl⟩ := Option.map_eq_some_iff.mp h
    have hm := List.mem_of_getElem? hx
    obtain ⟨g, h1, h2, h3, h4⟩ := s.hd x hm
    have q := HV.num (n := (pvs rows).length) (x.s : Int) (x.e : Int) (x.t : Int) (x.d : Int) (okP x.k) true (s.kv hm)
    have e : (decide ((0 ≤ (x.s : Int) ∧ (x.s : Int) < x.e ∧ (x.e : Int) ≤ ((pvs rows).length : Nat)) ∧ (0 ≤ (x.t : Int) ∧ (x.t : Int) < ((pvs rows).length : Nat)) ∧ (0 ≤ (x.d : Int) ∧ (x.d : Int) ≤ 200)) && true) = true := by
      rw [Bool.and_true]
      have : (pvs rows).length = rows.length := List.length_map _
      rw [this]
      exact decide_eq_true ⟨⟨by omega, by omega, by omega⟩, ⟨by omega, by omega⟩, by omega, by omega⟩
    rw [e] at q
    exact q
  nc := by have := s.len; show (rows.map _).length < _; rw [List.length_map]; omega
  nl := by have := s.len; show (rows.map _).length < _; rw [List.length_map]; omega
  nh := by have := s.few; show (hds.map _).length < _; rw [List.length_map]; omega
theorem Raw.last (s : Raw rows hds) : ∃ r, rows[rows.length - 1]? = some r ∧ r.i.last = true := by
  have p := s.pos
  have hl : rows.length - 1 < rows.length := by omega
  refine ⟨rows[rows.length - 1], List.getElem?_eq_getElem hl, ?_⟩
  cases h : (rows[rows.length - 1]).i.last with
  | true => rfl
  | false =>
    have := s.nxt _ _ (List.getElem?_eq_getElem hl) h
    omega
theorem Raw.err (s : Raw rows hds) : s.vals.err = none := by
  have n1 : s.vals.cs.length = rows.length := List.length_map _
  have n2 : s.vals.ls.length = rows.length := List.length_map _
  have p1 := s.len
  have p2 := s.pos
  have f1 : (List.range s.vals.cs.length).find? s.vals.bad1 = none := List.find?_eq_none.mpr fun k _ => by simp [Vals.bad1, Raw.vals]
  have f4 : (List.range s.vals.hs.length).find? s.vals.bad4 = none := List.find?_eq_none.mpr fun k _ => by simp [Vals.bad4, Raw.vals]
  have f3 : (List.range (mx s.vals.cs.length s.vals.ls.length)).find? s.vals.bad3 = none := List.find?_eq_none.mpr fun k hk => by
    have hk : k < mx s.vals.cs.length s.vals.ls.length := by simpa using hk
    unfold mx at hk
    rw [n1, n2] at hk
    simp only [Nat.lt_irrefl, gt_iff_lt, if_false] at hk
    unfold Vals.bad3
    rw [n1, n2, decide_eq_false (by omega)]
    simp [Raw.vals]
  have at_ : ∀ (k : Nat) (r : Rw), rows[k]? = some r → s.vals.cs.getD k .non = r.i.pv := fun k r hr => by
    have : s.vals.cs[k]? = some r.i.pv := by show (rows.map _)[k]? = _; rw [List.getElem?_map, hr]; rfl
    simp [List.getD, this]
  have f2 : (List.range s.vals.cs.length).find? s.vals.bad2 = none := List.find?_eq_none.mpr fun k hk => by
    have hk : k < rows.length := by rw [← n1]; simpa using hk
    obtain ⟨r, hr⟩ : ∃ r, rows[k]? = some r := ⟨rows[k], List.getElem?_eq_getElem hk⟩
    unfold Vals.bad2
    rw [at_ k r hr, tgtB_pv, n1]
    cases ht : r.i.tgt with
    | none => simp
    | some t =>
      have := s.tgt k r hr t ht
      simp
      omega
  obtain ⟨r, hr, hl⟩ := s.last
  unfold Vals.err
  rw [if_neg (by omega), f1, f2, f3, f4]
  show (if lastB (s.vals.cs.getD (s.vals.cs.length - 1) .non) = true then none else _) = none
  rw [n1, at_ _ r hr, lastB_pv, hl, if_pos rfl]
theorem Raw.tgts (s : Raw rows hds) : TgtOk rows hds := by
  intro i r hr x hx
  unfold exits at hx
  rcases List.mem_append.mp hx with hx | hx
  · rcases List.mem_append.mp hx with hx | hx
    · unfold exN at hx
      split at hx
      · rename_i c
        simp at hx; subst hx
        exact c.2
      · simp at hx
    · unfold exJ at hx
      split at hx
      · rename_i t ht
        simp at hx; subst hx
        exact s.tgt i r hr t ht
      · simp at hx
  · unfold exH at hx
    split at hx
    · split at hx
      · rename_i h hf
        simp at hx; subst hx
        exact (s.hd h (List.mem_of_find?_eq_some hf)).2.2.2.1
      · simp at hx
    · simp at hx
/-- the unit, exactly -/
theorem Raw.unit (s : Raw rows hds) {m1 m2 m3 : Md} {k1 k2 k3 : Kd} (q1 : k1 = .lst ∨ k1 = .tup) (q2 : k2 = .lst ∨ k2 = .tup) (q3 : k3 = .lst ∨ k3 = .tup) (o1 : tm m1 k1 = .own) (o2 : tm m2 k2 ≠ .lent) (o3 : tm m3 k3 ≠ .lent) :
    (∃ ds, topX rows hds = some ds ∧ ds.length = rows.length ∧ i_Unit_init [.con m1 k1 (pvs rows), .con m2 k2 (lns rows), .con m3 k3 (hvs hds)] = .ok (unitM (tm m2 k2) (tm m3 k3) (pvs rows) (lns rows) (hvs hds) (depP ds))) ∨
    (topX rows hds = none ∧ i_Unit_init [.con m1 k1 (pvs rows), .con m2 k2 (lns rows), .con m3 k3 (hvs hds)] = .ex "BadDepth" []) := by
  have h0 := unit_dep0 s.vals q1 q2 q3 o1 o2 o3 s.err rfl rfl
  rcases depths_X o3 (rows := rows) (hds := hds) s.pos (by have := s.len; omega) s.tgts with ⟨ds, e1, e2, e3⟩ | ⟨e1, e2⟩
  · exact Or.inl ⟨ds, e1, e2, h0.1 ds e3⟩
  · exact Or.inr ⟨e1, h0.2 e2⟩
end
end Law

/-! X3l: law_wild. -/
namespace Law
open PySem PySem.Spec PyProof.Rows L2 Pv
def wordsL : List Str := ["pop", "copy", "add", "sub", "div", "less", "not", "print", "skip", "end", "const", "const", "const", "load", "store", "fail", "jump", "jumpif"]
abbrev gW (c : Nat) (n : Nat) (h y4 y6 y7 y8 y9 y10 : Option PV) : Gam := [some (.ref 0), some (.int (n : Nat)), some (.con .own .lst (wordsL.map PV.str)), some (.ref c), y4, h, y6, y7, y8, y9, y10]
structure WS (ns : List Int) (n c : Nat) (its : List Itr) (S : Sto) : Prop where
  d : DR 0 ns S
  cc : S[c]? = some (some (.lst, its.map Itr.pv))
  o : 0 < c
  g : ∀ i ∈ its, WI n i
theorem WS.mv {ns : List Int} {n c : Nat} {its : List Itr} {S S' : Sto} (w : WS ns n c its S) (d : DR 0 ns S') (f : ∀ i, i ≠ 0 → S'[i]? = S[i]?) : WS ns n c its S' := ⟨d, (f c (by have := w.o; omega)).trans w.cc, w.o, w.g⟩
theorem WS.put {ns : List Int} {n c : Nat} {its : List Itr} {S : Sto} (w : WS ns n c its S) {i : Itr} (g : WI n i) : WS ns n c (its ++ [i]) (S.set c (some (.lst, its.map Itr.pv ++ [i.pv]))) :=
  ⟨w.d.set (by have := w.o; omega), by rw [List.map_append]; exact set_new w.cc, w.o, mem_app w.g (by simp only [List.mem_singleton, forall_eq]; exact g)⟩
theorem azu {x : Nat} (h : x < 3) : ∃ u, WdOk u ∧ [PV.str "a", .str "zero", .str "unbound"].getD x .non = .str u := by
  rcases x with _ | _ | _ | x
  · exact ⟨"a", by decide, rfl⟩
  · exact ⟨"zero", by decide, rfl⟩
  · exact ⟨"unbound", by decide, rfl⟩
  · omega
theorem wild_turn {ns : List Int} {n c : Nat} {its : List Itr} {S : Sto} (w : WS ns n c its S) (hn : 0 < n) (hn2 : n < 100) (hl : its.length < 100) {h y4 y6 y7 y8 y9 y10 : Option PV} :
    rsP (l3_law_wild (gW c n h y4 y6 y7 y8 y9 y10) S) fun q => ∃ y6 y7 i S', q = .nx (gW c n h y4 y6 y7 y8 y9 y10) S' ∧ WS ns n c (its ++ [i]) S' := by
  unfold l3_law_wild
  wtm_at "w"
  refine drawR w.d (by decide) (by decide) fun j S1 hj d1 e1 f1 => ?_
  have w := w.mv d1 f1
  have n2 : (wordsL.map PV.str).length = 18 := rfl
  refine ⟨_, _, pick (by omega), ?_⟩
  have hv : (wordsL.map PV.str).getD j .non ∈ wordsL.map PV.str := getD_mem (by omega)
  generalize (wordsL.map PV.str).getD j .non = p at hv ⊢
  have fin : ∀ {S : Sto} (i : Itr) {y6 y7 : Option PV}, WS ns n c its S → WI n i → ∃ y6' y7' i' S', RS.nx (gW c n h y4 y6 y7 y8 y9 y10) (S.set c (some (.lst, its.map Itr.pv ++ [i.pv]))) = .nx (gW c n h y4 y6' y7' y8 y9 y10) S' ∧ WS ns n c (its ++ [i']) S' := fun i _ _ w g => ⟨_, _, i, _, rfl, w.put g⟩
  have wc := w.cc
  have n1 : (its.map Itr.pv).length = its.length := List.length_map _
  simp only [wordsL, List.map_cons, List.map_nil, List.mem_cons, List.not_mem_nil, or_false] at hv
  rcases hv with rfl | rfl | rfl | rfl | rfl | rfl | rfl | rfl | rfl | rfl | rfl | rfl | rfl | rfl | rfl | rfl | rfl | rfl
  · wtm_at "w"
    exact fin (.op .pop) w ⟨trivial, fun t h => by cases h⟩
  · wtm_at "w"
    exact fin (.op .copy) w ⟨trivial, fun t h => by cases h⟩
  · wtm_at "w"
    exact fin (.op .add) w ⟨trivial, fun t h => by cases h⟩
  · wtm_at "w"
    exact fin (.op .sub) w ⟨trivial, fun t h => by cases h⟩
  · wtm_at "w"
    exact fin (.op .div) w ⟨trivial, fun t h => by cases h⟩
  · wtm_at "w"
    exact fin (.op .less) w ⟨trivial, fun t h => by cases h⟩
  · wtm_at "w"
    exact fin (.op .not) w ⟨trivial, fun t h => by cases h⟩
  · wtm_at "w"
    exact fin (.op .print) w ⟨trivial, fun t h => by cases h⟩
  · wtm_at "w"
    exact fin (.op .skip) w ⟨trivial, fun t h => by cases h⟩
  · wtm_at "w"
    exact fin (.op .stop) w ⟨trivial, fun t h => by cases h⟩
  · wtm_at "w"
    refine drawR w.d (by decide) (by decide) fun x S2 hx d2 e2 f2 => ?_
    have w := w.mv d2 f2
    have wc := w.cc
    wtm_at "w"
    exact fin (.c (x : Nat)) w ⟨⟨by omega, by omega⟩, fun t h => by cases h⟩
  · wtm_at "w"
    refine drawR w.d (by decide) (by decide) fun x S2 hx d2 e2 f2 => ?_
    have w := w.mv d2 f2
    have wc := w.cc
    wtm_at "w"
    exact fin (.c (x : Nat)) w ⟨⟨by omega, by omega⟩, fun t h => by cases h⟩
  · wtm_at "w"
    refine drawR w.d (by decide) (by decide) fun x S2 hx d2 e2 f2 => ?_
    have w := w.mv d2 f2
    have wc := w.cc
    wtm_at "w"
    exact fin (.c (x : Nat)) w ⟨⟨by omega, by omega⟩, fun t h => by cases h⟩
  · wtm_at "w"
    refine drawR w.d (by decide) (by decide) fun x S2 hx d2 e2 f2 => ?_
    have w := w.mv d2 f2
    have wc := w.cc
    refine ⟨_, _, pick (by simp; omega), ?_⟩
    obtain ⟨u, hu, eu⟩ := azu (x := x) (by omega)
    rw [eu]
    wtm_at "w"
    exact fin (.ld u) w ⟨hu, fun t h => by cases h⟩
  · wtm_at "w"
    refine drawR w.d (by decide) (by decide) fun x S2 hx d2 e2 f2 => ?_
    have w := w.mv d2 f2
    have wc := w.cc
    refine ⟨_, _, pick (by simp; omega), ?_⟩
    obtain ⟨u, hu, eu⟩ := azu (x := x) (by omega)
    rw [eu]
    wtm_at "w"
    exact fin (.sto u) w ⟨hu, fun t h => by cases h⟩
  · wtm_at "w"
    refine drawR w.d (by decide) (by decide) fun x S2 hx d2 e2 f2 => ?_
    have w := w.mv d2 f2
    have wc := w.cc
    refine ⟨_, _, pick (by simp; omega), ?_⟩
    obtain ⟨u, hu, eu⟩ := azu (x := x) (by omega)
    rw [eu]
    wtm_at "w"
    exact fin (.fl u) w ⟨hu, fun t h => by cases h⟩
  · wtm_at "w"
    refine drawR w.d (by omega) (by omega) fun x S2 hx d2 e2 f2 => ?_
    have w := w.mv d2 f2
    have wc := w.cc
    wtm_at "w"
    exact fin (.jp x) w ⟨trivial, fun t h => by cases h; omega⟩
  · wtm_at "w"
    refine drawR w.d (by omega) (by omega) fun x S2 hx d2 e2 f2 => ?_
    have w := w.mv d2 f2
    have wc := w.cc
    wtm_at "w"
    exact fin (.ji x) w ⟨trivial, fun t h => by cases h; omega⟩
end Law

/-! X3m: law_wild: its handlers, the whole. -/
namespace Law
open PySem PySem.Spec PyProof.Rows L2 Pv
structure HS (ns : List Int) (n c b : Nat) (its : List Itr) (hds : List Hnd) (S : Sto) : Prop where
  w : WS ns n c its S
  hb : S[b]? = some (some (.lst, hvs hds))
  o : c < b
  g : ∀ x ∈ hds, WH n x
theorem HS.mv {ns : List Int} {n c b : Nat} {its : List Itr} {hds : List Hnd} {S S' : Sto} (w : HS ns n c b its hds S) (d : DR 0 ns S') (f : ∀ i, i ≠ 0 → S'[i]? = S[i]?) : HS ns n c b its hds S' := ⟨w.w.mv d f, (f b (by have := w.o; omega)).trans w.hb, w.o, w.g⟩
theorem HS.put {ns : List Int} {n c b : Nat} {its : List Itr} {hds : List Hnd} {S : Sto} (w : HS ns n c b its hds S) {x : Hnd} (g : WH n x) : HS ns n c b its (hds ++ [x]) (S.set b (some (.lst, hvs hds ++ [x.pv]))) := by
  have o := w.o
  have o2 := w.w.o
  refine ⟨⟨w.w.d.set (by omega), set_get w.w.cc (by omega), o2, w.w.g⟩, ?_, o, mem_app w.g (by simp only [List.mem_singleton, forall_eq]; exact g)⟩
  have : hvs (hds ++ [x]) = hvs hds ++ [x.pv] := by unfold hvs; rw [List.map_append]; rfl
  rw [this]
  exact set_new w.hb
theorem kinds {x : Nat} (h : x < 3) : ∃ k : Option Str, (∀ w, k = some w → WdOk w) ∧ [PV.non, .str "zero", .str "unbound"].getD x .non = okP k := by
  rcases x with _ | _ | _ | x
  · exact ⟨none, (fun w h => by cases h), rfl⟩
  · exact ⟨some "zero", (fun w h => by cases h; decide), rfl⟩
  · exact ⟨some "unbound", (fun w h => by cases h; decide), rfl⟩
  · omega
theorem deps {x : Nat} (h : x < 4) : ∃ k : Nat, k ≤ 200 ∧ [PV.int 0, .int 0, .int 1, .int 2].getD x .non = .int (k : Nat) := by
  rcases x with _ | _ | _ | _ | x
  · exact ⟨0, by omega, rfl⟩
  · exact ⟨0, by omega, rfl⟩
  · exact ⟨1, by omega, rfl⟩
  · exact ⟨2, by omega, rfl⟩
  · omega
abbrev gW2 (c : Nat) (n : Nat) (y2 h y4 y6 y7 y8 y9 y10 : Option PV) : Gam := [some (.ref 0), some (.int (n : Nat)), y2, some (.ref c), y4, h, y6, y7, y8, y9, y10]
abbrev gH4 (c b : Nat) (n : Nat) (y2 y4 y6 y7 y8 y9 y10 : Option PV) : Gam := gW2 c n y2 (some (.ref b)) y4 y6 y7 y8 y9 y10
theorem wild_hd {ns : List Int} {n c b : Nat} {its : List Itr} {hds : List Hnd} {S : Sto} (w : HS ns n c b its hds S) (hn : 0 < n) (hn2 : n < 100) (hl : hds.length < 100) {y2 y4 y6 y7 y8 y9 y10 : Option PV} :
    rsP (l4_law_wild (gH4 c b n y2 y4 y6 y7 y8 y9 y10) S) fun q => ∃ y8 y9 y10 x S', q = .nx (gH4 c b n y2 y4 y6 y7 y8 y9 y10) S' ∧ HS ns n c b its (hds ++ [x]) S' := by
  have nh : (hvs hds).length = hds.length := List.length_map _
  unfold l4_law_wild
  wtm_at "w"
  refine drawR w.w.d (by omega) (by omega) fun s S1 hs d1 e1 f1 => ?_
  have w := w.mv d1 f1
  wtm_at "w"
  refine drawR w.w.d (by omega) (by omega) fun e S1 he d1 e1 f1 => ?_
  have w := w.mv d1 f1
  wtm_at "w"
  refine drawR w.w.d (by omega) (by omega) fun k S1 hk d1 e1 f1 => ?_
  have w := w.mv d1 f1
  refine ⟨_, _, pick (by simp; omega), ?_⟩
  obtain ⟨kd, hkd, ek⟩ := kinds (x := k) (by omega)
  rw [ek]
  have wb := w.hb
  wtm_at "w"
  refine drawR w.w.d (by omega) (by omega) fun t S1 ht d1 e1 f1 => ?_
  have w := w.mv d1 f1
  wtm_at "w"
  refine drawR w.w.d (by omega) (by omega) fun z S1 hz d1 e1 f1 => ?_
  have w := w.mv d1 f1
  refine ⟨_, _, pick (by simp; omega), ?_⟩
  obtain ⟨dd, hdd, ed⟩ := deps (x := z) (by omega)
  rw [ed]
  have wb := w.hb
  wtm_at "w"
  have e2 : ((s : Nat) : Int) + 1 + (e : Nat) = ((s + 1 + e : Nat) : Int) := by omega
  rw [e2]
  exact ⟨_, _, _, ⟨s, s + 1 + e, t, dd, kd⟩, _, rfl, w.put ⟨hkd, by dsimp only; omega, by dsimp only; omega, by dsimp only; omega, by dsimp only; omega⟩⟩
theorem raw_of {rows : List Rw} {hds : List Hnd} (h1 : 0 < rows.length) (h2 : rows.length ≤ 199) (hw : ∀ r ∈ rows, WI rows.length r.i) (hl : ∀ r ∈ rows, r.l ≤ 1000000) (he : ∃ r, rows[rows.length - 1]? = some r ∧ r.i.last = true) (hh : ∀ x ∈ hds, WH rows.length x) (hf : hds.length < 900) : Raw rows hds where
  len := h2
  pos := h1
  good := fun j r hr => ⟨(hw r (List.mem_of_getElem? hr)).1, hl r (List.mem_of_getElem? hr)⟩
  nxt := fun j r hr q => by
    have hj := (List.getElem?_eq_some_iff.mp hr).1
    obtain ⟨r', e, l⟩ := he
    by_cases h : j = rows.length - 1
    · subst h
      rw [hr] at e
      cases e
      rw [l] at q
      cases q
    · omega
  tgt := fun j r hr => (hw r (List.mem_of_getElem? hr)).2
  hd := fun x hx => hh x hx
  few := hf
/-- a drawn program -/
structure Wild (ns : List Int) (z : Nat) (S : Sto) : Prop where
  ex : ∃ rows hds c b, S[z]? = some (some (.lst, [.ref c, .con .own .lst (lns rows), .ref b])) ∧ S[c]? = some (some (.lst, pvs rows)) ∧ S[b]? = some (some (.lst, hvs hds)) ∧ Raw rows hds ∧ DR 0 ns S ∧ 0 < c ∧ 0 < b
theorem lastW {n x : Nat} {y : Nat} (h : x < 3) (hy : y < n) : ∃ i : Itr, WI n i ∧ i.last = true ∧ [PV.con .own .tup [.str "end"], .con .own .tup [.str "fail", .str "zero"], .con .own .tup [.str "jump", .int (y : Nat)]].getD x .non = i.pv := by
  rcases x with _ | _ | _ | x
  · exact ⟨.op .stop, ⟨trivial, fun t h => by cases h⟩, rfl, rfl⟩
  · exact ⟨.fl "zero", ⟨(by decide : WdOk "zero"), fun t h => by cases h⟩, rfl, rfl⟩
  · exact ⟨.jp y, ⟨trivial, fun t h => by cases h; exact hy⟩, rfl, rfl⟩
  · omega
theorem W.cons_of {t : EF} {as : AF} {Γ : Gam} {S S1 : Sto} {v : PV} {Qs : List PV → Sto → Prop} (e : t Γ S = .ok v S1) (h : okR (as Γ S1) fun vs S2 => Qs (v :: vs) S2) : okR (aCons t as Γ S) Qs := Pv.W.cons (okR.of e h)
theorem wild_end {ns : List Int} {n c b : Nat} {its : List Itr} {hds : List Hnd} {S : Sto} (w : HS ns n c b its hds S) (hn : 0 < n) (hn2 : n < 100) (hl : hds.length < 100) (hi : its.length = n) (he : ∃ i, its[n - 1]? = some i ∧ i.last = true) {y2 y4 y6 y7 y8 y9 y10 : Option PV} :
    rsP (r5_law_wild (gH4 c b n y2 y4 y6 y7 y8 y9 y10) S) fun q => ∃ z S', q = .rt (.ref z) S' ∧ Wild ns z S' := by
  have hc0 := w.w.o
  have hcb := w.o
  have g0 : GS ns 0 c S S (its.map Itr.pv) := ⟨w.w.d, w.w.cc, by omega, Nat.le_refl _, fun _ _ _ _ => rfl⟩
  have hr : okR (eLc false (iR1 (aCons (eV 1) aNil)) (gN 4) bYes (eCallW f_law_line (aCons (eV 0) aNil)) [4] (gH4 c b n y2 y4 y6 y7 y8 y9 y10) S) fun v S2 => ∃ rows : List Rw, v = .con .own .lst (lns rows) ∧ GS ns 0 c S S2 (pvs rows) ∧ rows.map Rw.i = its ∧ ∀ r ∈ rows, r.l ≤ 1000000 := by
    with_reducible refine W.lcDrawF (m := n) (fun S' => GS ns 0 c S S' (its.map Itr.pv)) (fun v => ∃ l : {l : Nat // l ≤ 1000000}, v = .int (l.1 : Nat)) ?_
    wtm_at "w"
    refine ⟨rfl, by omega, g0, fun x S' g => ?_, fun vs S2 g hvs hl2 => ?_⟩
    · exact Pv.W.callW (Pv.W.cons (Pv.W.var rfl (Pv.W.nil (gline g fun l S'' hl g' => ⟨g', ⟨l, hl⟩, rfl⟩))))
    obtain ⟨ls, rfl⟩ := list_of (f := fun l : {l : Nat // l ≤ 1000000} => PV.int (l.1 : Nat)) (xs := vs) fun k v h => hvs v (List.mem_of_getElem? h)
    rw [List.length_map] at hl2
    obtain ⟨rows, r1, r2⟩ := zipRw its (ls.map (·.1)) (by rw [List.length_map]; omega)
    have p1 : its.map Itr.pv = pvs rows := by rw [← r1, List.map_map]; rfl
    have p2 : (ls.map fun l : {l : Nat // l ≤ 1000000} => PV.int (l.1 : Nat)) = lns rows := by
      have : lns rows = (rows.map Rw.l).map fun l : Nat => PV.int (l : Nat) := by unfold lns; rw [List.map_map]; rfl
      rw [this, r2, List.map_map]; rfl
    refine ⟨rows, by rw [p2], by rw [← p1]; exact g, r1, fun r hr => ?_⟩
    have : r.l ∈ ls.map (·.1) := by rw [← r2]; exact List.mem_map_of_mem hr
    obtain ⟨l, _, e⟩ := List.mem_map.mp this
    rw [← e]; exact l.2
  obtain ⟨v, S2, e, rows, rfl, g, r1, rl⟩ := hr.eq
  have p3 : rows.length = n := by rw [← hi, ← r1, List.length_map]
  have hb := (g.fr b (List.getElem?_eq_some_iff.mp w.hb).1 (by omega) (by omega)).trans w.hb
  unfold r5_law_wild
  generalize eLc false (iR1 (aCons (eV 1) aNil)) (gN 4) bYes (eCallW f_law_line (aCons (eV 0) aNil)) [4] = T at e ⊢
  wtm_at "s"
  wtm_at "s"
  wtm_at "s"
  refine Pv.W.var rfl ?_
  refine W.cons_of e ?_
  wtm_at "w"
  refine ⟨_, _, rfl, ⟨rows, hds, c, b, app_new rfl, app_get g.rw_, app_get hb, ?_, g.dr.app, hc0, by omega⟩⟩
  refine raw_of (by omega) (by omega) (fun r hr => ?_) rl ?_ (by rw [p3]; exact w.g) (by omega)
  · rw [p3]
    exact w.w.g r.i (by rw [← r1]; exact List.mem_map_of_mem hr)
  · obtain ⟨i, e, l⟩ := he
    rw [← r1, List.getElem?_map] at e
    obtain ⟨r, hr, rfl⟩ := Option.map_eq_some_iff.mp e
    exact ⟨r, by rw [p3]; exact hr, l⟩
theorem WS.app {ns : List Int} {n c : Nat} {its : List Itr} {S : Sto} {u : Option (Kd × List PV)} (w : WS ns n c its S) : WS ns n c its (S ++ [u]) := ⟨w.d.app, app_get w.cc, w.o, w.g⟩
theorem wild_mid {ns : List Int} {n c : Nat} {its : List Itr} {S : Sto} (w : WS ns n c its S) (hn : 0 < n) (hn2 : n < 100) (hi : its.length = n) {y2 y4 y5 y6 y7 y8 y9 y10 : Option PV} :
    rsP (r6_law_wild (gW2 c n y2 y5 y4 y6 y7 y8 y9 y10) S) fun q => ∃ z S', q = .rt (.ref z) S' ∧ Wild ns z S' := by
  have hc0 := w.o
  wtm_at "w"
  refine drawR w.d (by omega) (by omega) fun y S1 hy d1 e1 f1 => ?_
  have w := w.mv d1 f1
  wtm_at "w"
  refine drawR w.d (by omega) (by omega) fun x S1 hx d1 e1 f1 => ?_
  have w := w.mv d1 f1
  refine ⟨_, _, pick (by simp; omega), ?_⟩
  obtain ⟨i, gi, li, ei⟩ := lastW (n := n) (x := x) (y := y) (by omega) (by omega)
  rw [ei]
  wtm_at "w"
  dsimp only
  rw [show ((n : Nat) : Int) - 1 = ((n - 1 : Nat) : Int) by omega]
  have wc := w.cc
  have nl : (its.map Itr.pv).length = n := by rw [List.length_map, hi]
  refine ⟨_, setF (j := n - 1) w.cc (by omega), ?_⟩
  have w2 : WS ns n c (its.set (n - 1) i) (S1.set c (some (.lst, (its.map Itr.pv).set (n - 1) i.pv))) := ⟨w.d.set (by omega), by rw [← List.map_set]; exact set_new w.cc, w.o, mem_set w.g gi⟩
  have he : (its.set (n - 1) i)[n - 1]? = some i := List.getElem?_set_self (by omega)
  have hi2 : (its.set (n - 1) i).length = n := by rw [List.length_set, hi]
  generalize S1.set c (some (.lst, (its.map Itr.pv).set (n - 1) i.pv)) = S2 at w2 ⊢
  generalize its.set (n - 1) i = its2 at w2 he hi2
  wtm_at "w"
  have wh : HS ns n c S2.length its2 [] (S2 ++ [some (.lst, [])]) := ⟨w2.app, app_new rfl, (List.getElem?_eq_some_iff.mp w2.cc).1, by simp⟩
  refine drawR wh.w.d (by omega) (by omega) fun m S3 hm d3 e3 f3 => ?_
  have wh := wh.mv d3 f3
  wtm_at "w"
  refine ⟨m, rfl, by omega, ?_⟩
  generalize S2.length = b at wh ⊢
  refine Pv.W.turns (fun k : Nat => PV.int (k : Nat)) (fun d r Γ S' => d ++ r = List.range m ∧ ∃ y4 y8 y9 y10 hds, Γ = gH4 c b n y2 y4 y6 y7 y8 y9 y10 ∧ HS ns n c b its2 hds S' ∧ hds.length = d.length) ?_ ?_ ⟨rfl, _, _, _, _, [], rfl, wh, rfl⟩
  · rintro d k r Γ S' ⟨e, y4, y8, y9, y10, hds, rfl, h, hl⟩
    refine ⟨_, _, rfl, ?_⟩
    have ln : d.length < 3 := by
      have := congrArg List.length e
      simp at this
      omega
    refine rsP.mono (wild_hd (y4 := some (.int (k : Nat))) h hn hn2 (by omega)) ?_
    rintro q ⟨y8, y9, y10, x, S2, rfl, h2⟩
    exact ⟨by rw [← e]; simp, _, _, _, _, _, rfl, h2, by simp [hl]⟩
  · rintro d Γ S' ⟨e, y4, y8, y9, y10, hds, rfl, h, hl⟩
    have ln : d.length < 3 := by
      have := congrArg List.length e
      simp at this
      omega
    wtm_at "s"
    exact wild_end h hn hn2 (by omega) hi2 ⟨_, he, li⟩
theorem wild_ok {ns : List Int} {S : Sto} (d : DR 0 ns S) (hS : 0 < S.length) : okR (f_law_wild [.ref 0] S) fun v S' => ∃ z, v = .ref z ∧ Wild ns z S' := by
  unfold f_law_wild
  refine Pv.W.run rfl ?_
  show rsP (body_law_wild [some (.ref 0), none, none, none, none, none, none, none, none, none, none] S) _
  wtm_at "w"
  refine drawR d (by omega) (by omega) fun j S1 hj d1 e1 f1 => ?_
  wtm_at "w"
  have e0 : (1 : Int) + (j : Nat) = ((1 + j : Nat) : Int) := by omega
  rw [e0]
  refine ⟨1 + j, rfl, by omega, ?_⟩
  have w0 : WS ns (1 + j) S1.length [] (S1 ++ [some (.lst, [])]) := ⟨d1.app, app_new rfl, by omega, by simp⟩
  generalize S1.length = c at w0 ⊢
  have hn : 0 < 1 + j := by omega
  have hn2 : 1 + j < 100 := by omega
  generalize 1 + j = n at hn hn2 w0 ⊢
  refine Pv.W.turns (fun k : Nat => PV.int (k : Nat)) (fun d r Γ S' => d ++ r = List.range n ∧ ∃ y4 y6 y7 its, Γ = gW c n none y4 y6 y7 none none none ∧ WS ns n c its S' ∧ its.length = d.length) ?_ ?_ ⟨rfl, none, none, none, [], rfl, w0, rfl⟩
  · rintro d k r Γ S' ⟨e, y4, y6, y7, its, rfl, h, hl⟩
    refine ⟨_, _, rfl, ?_⟩
    have ln : d.length < n := by
      have := congrArg List.length e
      simp at this
      omega
    refine rsP.mono (wild_turn (y4 := some (.int (k : Nat))) h hn hn2 (by omega)) ?_
    rintro q ⟨y6, y7, i, S2, rfl, h2⟩
    exact ⟨by rw [← e]; simp, _, _, _, _, rfl, h2, by simp [hl]⟩
  · rintro d Γ S' ⟨e, y4, y6, y7, its, rfl, h, hl⟩
    have ln : d.length = n := by
      have := congrArg List.length e
      simp at this
      omega
    wtm_at "s"
    refine rsP.mono (wild_mid h hn hn2 (by omega)) ?_
    rintro q ⟨z, S2, rfl, h2⟩
    exact ⟨z, rfl, h2⟩
end Law

namespace Law
open PySem PySem.Spec PyProof.Rows L2 Pv
theorem like_loop {n : Nat} (ih : ∀ p q, dat n p → dat n q → f_law_like (n + 1) [p, q] = .ok (.bl (same p q))) {m m' : Md} {k : Kd} {xs ys : List PV} (hk : k = .tup ∨ k = .lst) (dx : dats n xs) (dy : dats n ys) (hl : xs.length = ys.length) :
    (sames xs ys = true ∧ ∃ x, forL (sTurn (gN 2) (l0_law_like (f_law_like (n + 1)))) (intsF 0 ys.length) [some (.con m k xs), some (.con m' k ys), none] [] = .nx [some (.con m k xs), some (.con m' k ys), x] []) ∨
    (sames xs ys = false ∧ forL (sTurn (gN 2) (l0_law_like (f_law_like (n + 1)))) (intsF 0 ys.length) [some (.con m k xs), some (.con m' k ys), none] [] = .rt (.bl false) []) := by
  refine forR_ind (fun i Γ S => S = [] ∧ ∃ x, Γ = [some (.con m k xs), some (.con m' k ys), x] ∧ sames xs ys = sames (xs.drop i) (ys.drop i))
    (fun r => (sames xs ys = true ∧ ∃ x, r = .nx [some (.con m k xs), some (.con m' k ys), x] []) ∨ (sames xs ys = false ∧ r = .rt (.bl false) [])) ?_ ?_ ⟨rfl, none, rfl, rfl⟩
  · rintro i Γ S hi ⟨rfl, x, rfl, e⟩
    have hx : xs[i]? = some xs[i] := List.getElem?_eq_getElem _
    have hy : ys[i]? = some ys[i] := List.getElem?_eq_getElem _
    rw [sames_drop hx hy] at e
    have q := ih _ _ (dats_get dx hx) (dats_get dy hy)
    have c1 := lend_clean (S := []) (dat_clean (dats_get dx hx))
    have c2 := lend_clean (S := []) (dat_clean (dats_get dy hy))
    have a1 : ixB [] (.con m k xs) (.int (i : Int)) = some xs[i] := by rcases hk with rfl | rfl <;> simp only [ixB_lst, ixB_tup, atI_nat] <;> exact hx
    have a2 : ixB [] (.con m' k ys) (.int (i : Int)) = some ys[i] := by rcases hk with rfl | rfl <;> simp only [ixB_lst, ixB_tup, atI_nat] <;> exact hy
    cases h : same xs[i] ys[i] with
    | true =>
      rw [h] at e q
      simp [l0_law_like, a1, a2, c1, c2, q, e]
    | false =>
      rw [h] at e q
      simp [l0_law_like, a1, a2, c1, c2, q, e]
  · rintro Γ S ⟨rfl, x, rfl, e⟩
    rw [List.drop_eq_nil_of_le (by omega), List.drop_eq_nil_of_le (Nat.le_refl _)] at e
    exact Or.inl ⟨e, x, rfl⟩
theorem like_ok : ∀ (n : Nat) (p q : PV), dat n p → dat n q → f_law_like (n + 1) [p, q] = .ok (.bl (same p q)) := by
  intro n
  induction n with
  | zero =>
    intro p q hp hq
    simp only [f_law_like]
    rw [runP_eq (np := 2) rfl]

    cases q <;> cases p <;> simp [dat] at hp hq <;> simp [body_law_like, r6_law_like, r5_law_like, r4_law_like, same, isNP]
  | succ n ih =>
    intro p q hp hq
    rw [f_law_like]
    rw [runP_eq (np := 2) rfl]
    have sc := @like_loop n ih
    cases q with
    | con m' k' ys =>
      simp only [dat] at hq
      obtain ⟨hk, hm, hl, dy⟩ := hq
      have one : ∀ (k : Kd) (m : Md) (xs : List PV), (k = .tup ∨ k = .lst) → dats n xs → xs.length < 1000000000 → xs.length ≠ ys.length → sames xs ys = false := fun k m xs _ _ _ h => by
        cases e : sames xs ys with
        | false => rfl
        | true => exact absurd (sames_len e) h
      rcases hk with rfl | rfl
      · cases p with
        | con m k xs =>
          simp only [dat] at hp
          obtain ⟨hk, hm1, hl1, dx⟩ := hp
          rcases hk with rfl | rfl
          · by_cases hlen : xs.length = ys.length
            · have r1 := r1K_ok (n := (ys.length : Int)) (S := []) ⟨by omega, by omega⟩
              simp only [Int.toNat_natCast] at r1
              rcases sc (m := m) (m' := m') (k := .tup) (Or.inl rfl) dx dy hlen with ⟨e, x, e2⟩ | ⟨e, e2⟩
              · simp [body_law_like, r6_law_like, r5_law_like, r4_law_like, r3_law_like, r2_law_like, r1_law_like, same, isNP, hlen, r1, e, e2]
              · simp [body_law_like, r6_law_like, r5_law_like, r4_law_like, r3_law_like, r2_law_like, r1_law_like, same, isNP, hlen, r1, e, e2]
            · have e := one .tup m xs (Or.inl rfl) dx hl1 hlen
              simp [body_law_like, r6_law_like, r5_law_like, r4_law_like, r3_law_like, r2_law_like, r1_law_like, same, isNP, hlen, e, show ¬ ((xs.length : Int) = ys.length) from by omega]
          · simp [body_law_like, r6_law_like, r5_law_like, r4_law_like, r3_law_like, r2_law_like, r1_law_like, same, isNP]
        | ref _ => simp [dat] at hp
        | fn _ => simp [dat] at hp
        | ty _ => simp [dat] at hp
        | _ => simp [body_law_like, r6_law_like, r5_law_like, r4_law_like, r3_law_like, r2_law_like, r1_law_like, same, isNP]
      · cases p with
        | con m k xs =>
          simp only [dat] at hp
          obtain ⟨hk, hm1, hl1, dx⟩ := hp
          rcases hk with rfl | rfl
          · simp [body_law_like, r6_law_like, r5_law_like, r4_law_like, r3_law_like, r2_law_like, r1_law_like, same, isNP]
          · by_cases hlen : xs.length = ys.length
            · have r1 := r1K_ok (n := (ys.length : Int)) (S := []) ⟨by omega, by omega⟩
              simp only [Int.toNat_natCast] at r1
              rcases sc (m := m) (m' := m') (k := .lst) (Or.inr rfl) dx dy hlen with ⟨e, x, e2⟩ | ⟨e, e2⟩
              · simp [body_law_like, r6_law_like, r5_law_like, r4_law_like, r3_law_like, r2_law_like, r1_law_like, same, isNP, hlen, r1, e, e2]
              · simp [body_law_like, r6_law_like, r5_law_like, r4_law_like, r3_law_like, r2_law_like, r1_law_like, same, isNP, hlen, r1, e, e2]
            · have e := one .lst m xs (Or.inr rfl) dx hl1 hlen
              simp [body_law_like, r6_law_like, r5_law_like, r4_law_like, r3_law_like, r2_law_like, r1_law_like, same, isNP, hlen, e, show ¬ ((xs.length : Int) = ys.length) from by omega]
        | ref _ => simp [dat] at hp
        | fn _ => simp [dat] at hp
        | ty _ => simp [dat] at hp
        | _ => simp [body_law_like, r6_law_like, r5_law_like, r4_law_like, r3_law_like, r2_law_like, r1_law_like, same, isNP]
    | ref _ => simp [dat] at hq
    | fn _ => simp [dat] at hq
    | ty _ => simp [dat] at hq
    | _ =>
      cases p with
      | con m k xs =>
        simp only [dat] at hp
        obtain ⟨hk, _⟩ := hp
        rcases hk with rfl | rfl <;> simp [body_law_like, r6_law_like, r5_law_like, r4_law_like, same, isNP]
      | ref _ => simp [dat] at hp
      | fn _ => simp [dat] at hp
      | ty _ => simp [dat] at hp
      | _ => simp [body_law_like, r6_law_like, r5_law_like, r4_law_like, same, isNP]
end Law

/-! X3n: law k03: what is told is due. -/
namespace Law
open PySem PySem.Spec PyProof.Rows L2 Pv
theorem like_same {p : PV} (q : dat 9 p) : f_law_like 10 [p, p] = .ok (.bl true) := by rw [like_ok 9 _ _ q q, same_refl q]
theorem insI_len {k : Int} : ∀ {l : List Int}, (insI k l).length ≤ l.length + 1
  | [] => by simp [insI]
  | j :: l => by
    unfold insI
    split
    · simp
    · split
      · simp
      · have := insI_len (k := k) (l := l)
        simp only [List.length_cons]
        omega
theorem srtI_len : ∀ {l : List Int}, (srtI l).length ≤ l.length
  | [] => Nat.le_refl _
  | k :: l => by
    have h1 := srtI_len (l := l)
    have h2 := insI_len (k := k) (l := srtI l)
    show (insI k (srtI l)).length ≤ l.length + 1
    omega
theorem exT_len {n : Nat} {hds : List Hnd} {i : Nat} {r : Itr} : (exT n hds i r).length ≤ 3 := by
  unfold exT exits
  rw [List.length_map, List.length_append, List.length_append]
  have h1 : (exN n i r).length ≤ 1 := by unfold exN; split <;> simp
  have h2 : (exJ r).length ≤ 1 := by unfold exJ; split <;> simp
  have h3 : (exH hds i r).length ≤ 1 := by
    unfold exH
    split
    · split <;> simp
    · simp
  omega
theorem W.tryX {Γ : Gam} {S : Sto} {P : RS → Prop} {t u : SF} {l : List (List (Str × Bool) × SF)} {c : Str} {fs : List (Str × PV)} (hp : sPick l c = some (some u)) (h : rsP (t Γ S) fun r => ∃ Γ' S', r = .ex c fs Γ' S' ∧ rsP (u Γ' S') fun q => (∀ c fs Γ S, q ≠ .ex c fs Γ S) ∧ P q) : rsP (sTry t l Γ S) P := by
  obtain ⟨Γ', S', e, n, p⟩ := h
  unfold rsP
  rw [sTry_eq, e, tryK_ex hp]
  have n : ∀ c fs Γ S, u Γ' S' ≠ .ex c fs Γ S := n
  cases h : u Γ' S' with
  | ex c fs Γ S => exact absurd h (n _ _ _ _)
  | _ => rw [h] at p; exact p
theorem W.setMakeX {Γ : Gam} {S : Sto} {P : RS → Prop} {f : List PV → RP} {m i : Nat} {dps : List PV} {as : AF} {c : Str} {fs : List (Str × PV)} (h : okR (as Γ S) fun vs S1 => vs.length = m ∧ ∃ qs, vs.mapM (lendV S1) = some qs ∧ f (qs ++ dps) = .ex c fs ∧ P (.ex c fs Γ S1)) : rsP (sSet i (eMakeP f m dps as) Γ S) P := by
  obtain ⟨vs, S1, e, hl, qs, e2, e3, q⟩ := h.eq
  have : eMakeP f m dps as Γ S = .ex c fs S1 := by
    unfold eMakeP
    rw [e]
    show (if vs.length = m then (match vs.mapM (lendV S1) with
      | some qs => match f (qs ++ dps) with
        | .ok v => R.ok v S1
        | .ex c fs => .ex c fs S1
        | .bad => .bad
      | none => .bad) else .bad) = _
    rw [if_pos hl, e2]
    show (match f (qs ++ dps) with
        | .ok v => R.ok v S1
        | .ex c fs => .ex c fs S1
        | .bad => .bad) = _
    rw [e3]
  unfold rsP
  have : sSet i (eMakeP f m dps as) Γ S = .ex c fs Γ S1 := by
    unfold sSet
    rw [this]
    rfl
  rw [this]
  exact q
section
variable {rows : List Rw} {hds : List Hnd} {s lv hv : PV} {c : Nat} {S : Sto}
abbrev G3k (s : PV) (c : Nat) (lv hv : PV) (y5 y6 y7 y8 y9 : Option PV) : Gam := [some s, some (.ref 0), some (.ref c), some lv, some hv, y5, y6, y7, y8, y9]
theorem okds_dat {n : Nat} : ∀ ds : List (Option Nat), dats n (ds.map okd)
  | [] => by simp [dats]
  | none :: ds => by simp only [List.map_cons, okd, dats, dat, true_and]; exact okds_dat ds
  | some d :: ds => by simp only [List.map_cons, okd, dats, dat, true_and]; exact okds_dat ds
/-- what stands at r7 -/
structure L3 (rows : List Rw) (hds : List Hnd) (c : Nat) (lv hv : PV) (S : Sto) : Prop where
  raw : Raw rows hds
  hc : S[c]? = some (some (.lst, pvs rows))
  hl : ∃ m, lendV S lv = some (.con m .lst (lns rows)) ∧ tm m .lst = .own
  hh : ∃ m, lendV S hv = some (.con m .lst (hvs hds)) ∧ tm m .lst = .own
theorem k03_turn (f : L3 rows hds c lv hv S) {ds : List (Option Nat)} (hd : ds.length = rows.length) {k : Nat} (hk : k < rows.length) {y6 y9 : Option PV} :
    rsP (l2_law (G3k s c lv hv (some (depP ds)) y6 (some (unitM .own .own (pvs rows) (lns rows) (hvs hds) (depP ds))) (some (.int (k : Nat))) y9) S) fun q => q = .nx (G3k s c lv hv (some (depP ds)) y6 (some (unitM .own .own (pvs rows) (lns rows) (hvs hds) (depP ds))) (some (.int (k : Nat))) y9) S := by
  obtain ⟨raw, hc, ⟨m2, hl, t2⟩, ⟨m3, hh, t3⟩⟩ := f
  have z := raw.len
  obtain ⟨r, hr⟩ : ∃ r, rows[k]? = some r := ⟨rows[k], List.getElem?_eq_getElem hk⟩
  obtain ⟨d, hdk⟩ : ∃ d, ds[k]? = some d := ⟨ds[k]'(by omega), List.getElem?_eq_getElem (by omega)⟩
  have at_ : L2.atI (ds.map okd) (k : Int) = some (okd d) := by rw [atI_nat, List.getElem?_map, hdk]; rfl
  have q1 : dat 9 (.con .own .lst ((srtI ((exT rows.length hds k r.i).map fun n : Nat => (n : Int))).map .int)) := by
    refine dat_LIn 8 _ .own (by decide) .lst (Or.inr rfl) ?_
    have h1 := srtI_len (l := (exT rows.length hds k r.i).map fun n : Nat => (n : Int))
    have h2 := exT_len (n := rows.length) (hds := hds) (i := k) (r := r.i)
    rw [List.length_map] at h1
    omega
  have lx := lexits_ok (hds := hds) (m1 := .lent) (m2 := m3) hr (raw.nxt k r hr)
  have ex := exits_ok (hds := hds) (ml := .own) (mh := .own) hr (show rows.length < 100000 by omega) (by decide) (ls := lns rows) (d := depP ds)
  have cu : clean (unitM .own .own (pvs rows) (lns rows) (hvs hds) (depP ds)) = true := unit_cl raw.vals (ml := .own) (mh := .own) (by decide) (by decide) ds
  unfold l2_law
  wtm_at "w"
  refine ⟨_, _, ixK (Or.inr rfl) at_, ?_⟩
  cases d with
  | none =>
    wtm_at "w"
    rfl
  | some d =>
    wtm_at "w"
    refine ⟨_, _, lends_ok (by simp only [List.mem_cons, List.not_mem_nil, or_false, forall_eq_or_imp, forall_eq]; exact ⟨cu, rfl⟩), ex, ?_⟩
    wtm_at "w"
    have lm : [PV.ref c, hv, .int (k : Nat)].mapM (lendV S) = some [.con .lent .lst (pvs rows), .con m3 .lst (hvs hds), .int (k : Nat)] := by
      simp only [List.mapM_cons, List.mapM_nil, lendR hc (pvs_cl rows), hh, lend_int]
      rfl
    refine ⟨_, _, lm, lx, ?_⟩
    wtm_at "w"
    have cl := dat_clean q1
    refine ⟨_, _, lends_ok (by simp only [List.mem_cons, List.not_mem_nil, or_false, forall_eq_or_imp, forall_eq]; exact ⟨cl, cl⟩), like_same q1, ?_⟩
    wtm_at "w"
    rfl
theorem k03_told (f : L3 rows hds c lv hv S) {ds : List (Option Nat)} (hd : ds.length = rows.length) {y8 y9 : Option PV} :
    rsP (r6_law (G3k s c lv hv (some (depP ds)) (some (depP ds)) (some (unitM .own .own (pvs rows) (lns rows) (hvs hds) (depP ds))) y8 y9) S) okE := by
  have z := f.raw.len
  have n1 : (pvs rows).length = rows.length := List.length_map _
  have q1 : dat 9 (depP ds) := ⟨Or.inl rfl, by decide, by rw [List.length_map]; omega, okds_dat ds⟩
  have q2 : dat 9 (.con .own .lst (ds.map okd)) := ⟨Or.inr rfl, by decide, by rw [List.length_map]; omega, okds_dat ds⟩
  have c1 := dat_clean q1
  have c2 := dat_clean q2
  have hc := f.hc
  wtm_at "w"
  refine ⟨_, _, lends_ok (by simp only [List.mem_cons, List.not_mem_nil, or_false, forall_eq_or_imp, forall_eq]; exact ⟨c1, c1⟩), like_same q1, ?_⟩
  wtm_at "w"
  refine ⟨_, _, lends_ok (by simp only [List.mem_cons, List.not_mem_nil, or_false, forall_eq_or_imp, forall_eq]; exact ⟨c2, c2⟩), like_same q2, ?_⟩
  wtm_at "w"
  refine ⟨rows.length, by rw [n1], by omega, ?_⟩
  refine Pv.W.turns (fun k : Nat => PV.int (k : Nat)) (fun d r Γ S' => d ++ r = List.range rows.length ∧ S' = S ∧ ∃ y8, Γ = G3k s c lv hv (some (depP ds)) (some (depP ds)) (some (unitM .own .own (pvs rows) (lns rows) (hvs hds) (depP ds))) y8 y9) ?_ ?_ ⟨rfl, rfl, _, rfl⟩
  · rintro d k r Γ S' ⟨e, rfl, y8, rfl⟩
    refine ⟨_, _, rfl, ?_⟩
    have hk : k < rows.length := by
      have : k ∈ List.range rows.length := by rw [← e]; simp
      exact List.mem_range.mp this
    refine rsP.mono (k03_turn f hd hk) ?_
    rintro q rfl
    exact ⟨by rw [← e]; simp, rfl, _, rfl⟩
  · rintro d Γ S' ⟨e, rfl, y8, rfl⟩
    wtm_at "w"
    exact ⟨_, rfl⟩
theorem k03_r7 (f : L3 rows hds c lv hv S) {y5 y6 y7 y8 y9 : Option PV} :
    rsP (r7_law (G3k s c lv hv y5 y6 y7 y8 y9) S) okE := by
  obtain ⟨m2, hl, t2⟩ := f.hl
  obtain ⟨m3, hh, t3⟩ := f.hh
  have z := f.raw.len
  have hc := f.hc
  have lm : [PV.ref c, hv].mapM (lendV S) = some [.con .lent .lst (pvs rows), .con m3 .lst (hvs hds)] := by
    simp only [List.mapM_cons, List.mapM_nil, lendR hc (pvs_cl rows), hh]
    rfl
  have lm2 : [PV.ref c, lv, hv].mapM (lendV S) = some [.con .lent .lst (pvs rows), .con m2 .lst (lns rows), .con m3 .lst (hvs hds)] := by
    simp only [List.mapM_cons, List.mapM_nil, lendR hc (pvs_cl rows), hl, hh]
    rfl
  have due := ldepths_ok (m1 := .lent) (m2 := m3) f.raw.pos (by omega) f.raw.tgts f.raw.nxt
  have un := f.raw.unit (m1 := .lent) (m2 := m2) (m3 := m3) (k1 := .lst) (k2 := .lst) (k3 := .lst) (Or.inl rfl) (Or.inl rfl) (Or.inl rfl) rfl (by rw [t2]; decide) (by rw [t3]; decide)
  rw [t2, t3] at un
  wtm_at "s"
  wtm_at "s"
  wtm_at "w"
  refine ⟨_, _, lm, due, ?_⟩
  rcases un with ⟨ds, e, hd, eu⟩ | ⟨e, eu⟩
  · rw [e]
    wtm_at "w"
    refine W.tryN ?_
    wtm_at "s"
    refine Pv.W.set (Pv.W.make ?_)
    wtm_at "w"
    refine ⟨rfl, _, _, lm2, eu, ?_⟩
    wtm_at "w"
    exact ⟨_, _, rfl, k03_told f hd⟩
  · rw [e]
    wtm_at "w"
    refine W.tryX (c := "BadDepth") (fs := []) rfl ?_
    wtm_at "s"
    refine W.setMakeX (c := "BadDepth") (fs := []) ?_
    wtm_at "w"
    refine ⟨rfl, _, lm2, eu, ?_⟩
    refine ⟨_, _, rfl, ?_⟩
    wtm_at "w"
    refine ⟨(fun _ _ _ _ h => by cases h), ?_⟩
    wtm_at "w"
    exact ⟨_, rfl⟩
end
end Law

/-! F1: folding, plain. -/
namespace Law
open PySem PySem.Spec PyProof.Rows L2 Pv
def lim (x : Int) : Option Itr := if x > 1000000000000000000000000000000 ∨ x < -1000000000000000000000000000000 then none else some (.c x)
/-- what two rows fold to -/
def fold2 (a b : Itr) : Option Itr := match b with
  | .op .pop => match a with
    | .c _ => some (.op .skip)
    | .op .copy => some (.op .skip)
    | _ => none
  | .op .not => match a with
    | .c n => some (.c (if n = 0 then 1 else 0))
    | _ => none
  | .ji t => match a with
    | .c n => some (if n = 0 then .op .skip else .jp t)
    | _ => none
  | _ => none
def ari (o : Opc) (x y : Int) : Option Int := match o with
  | .add => some (x + y)
  | .sub => some (x - y)
  | .less => some (if x < y then 1 else 0)
  | .div => if y = 0 then none else some (Int.fdiv x y)
  | _ => none
/-- what three rows fold to -/
def fold3 (a b c : Itr) : Option Itr := match a, b, c with
  | .c x, .c y, .op o => (ari o x y).bind lim
  | _, _, _ => none
/-- the line goes with the first one's -/
def lnF (a b : Rw) : Bool := decide (b.l = 0 ∨ b.l = a.l)
/-- the group at a place: how many, what replaces it -/
def foldAt (rows : List Rw) (E : List Nat) (i : Nat) : Option (Nat × Itr) := match rows[i]?, rows[i + 1]? with
  | some a, some b => if (!decide (i + 1 ∈ E)) && lnF a b then
      match fold2 a.i b.i with
      | some r => some (2, r)
      | none => match rows[i + 2]? with
        | some c => if (!decide (i + 2 ∈ E)) && lnF a c then (fold3 a.i b.i c.i).map fun r => (3, r) else none
        | none => none
    else none
  | _, _ => none
/-- k rows from place i on replaced -/
def put (ns : List Rw) (i k : Nat) (r : Itr) : List Rw := ns.mapIdx fun j x => if j = i then ⟨r, x.l⟩ else if i < j ∧ j < i + k then ⟨.op .skip, 0⟩ else x
def foldL (rows : List Rw) (E : List Nat) : Nat → Nat → List Rw → List Rw
  | 0, _, ns => ns
  | m + 1, i, ns => if i < rows.length then match foldAt rows E i with
      | some (k, r) => foldL rows E m (i + k) (put ns i k r)
      | none => foldL rows E m (i + 1) ns
    else ns
theorem put_len {ns : List Rw} {i k : Nat} {r : Itr} : (put ns i k r).length = ns.length := List.length_mapIdx
theorem put_at {ns : List Rw} {i k j : Nat} {r : Itr} : (put ns i k r)[j]? = ns[j]?.map fun x => if j = i then ⟨r, x.l⟩ else if i < j ∧ j < i + k then ⟨.op .skip, 0⟩ else x := List.getElem?_mapIdx
/-- the row at place j goes with the depths D -/
structure NR (n : Nat) (E : List Nat) (hds : List Hnd) (D : Nat → Nat) (j : Nat) (r : Rw) : Prop where
  good : r.good
  rem : r.i.rem ≤ D j
  nxt : r.i.last = false → j + 1 < n ∧ D (j + 1) = D j - r.i.rem + r.i.push
  tgt : ∀ t, r.i.tgt = some t → t < n ∧ t ∈ E ∧ D t = D j - r.i.rem + r.i.push
  rai : kindO r.i ≠ none → ∀ h ∈ hds, h.s ≤ j → j < h.e → h.d ≤ D j
/-- rows of which a unit can be made -/
structure Fit (E : List Nat) (rows : List Rw) (hds : List Hnd) (D : Nat → Nat) : Prop where
  len : rows.length ≤ 199
  pos : 0 < rows.length
  d0 : D 0 = 0
  row : ∀ j r, rows[j]? = some r → NR rows.length E hds D j r
  hd : ∀ h ∈ hds, h.good ∧ h.s < h.e ∧ h.e < rows.length ∧ h.t < rows.length ∧ h.t ∈ E ∧ D h.t = h.d ∧ h.d ≤ 200
  few : hds.length ≤ rows.length
  last : ∃ r, rows[rows.length - 1]? = some r ∧ r.i.last = true
/-- all places that are entered -/
def entR (rows : List Rw) (hds : List Hnd) : List Nat := (rows.filterMap fun r => r.i.tgt) ++ hds.map fun h => h.t
theorem Small.fit {rows : List Rw} {hds : List Hnd} (s : Small rows hds) : ∃ D, Fit (entR rows hds) rows hds D := by
  obtain ⟨D, d0, sg⟩ := s.pr.dep
  have hp := s.pr.pos
  refine ⟨D, s.pr.len, hp, d0, fun j r hr => ?_, fun h hh => ?_, s.few, s.pr.last⟩
  · have rk := sg.row j r hr
    rw [Nat.zero_add] at rk
    have hj := (List.getElem?_eq_some_iff.mp hr).1
    refine ⟨rk.good, rk.rem, fun z => ⟨?_, rk.nxt z⟩, fun t ht => ?_, fun _ h hh h1 h2 => (sg.hd h hh).cov j h1 h2⟩
    · obtain ⟨r', hr', hl⟩ := s.pr.last
      by_cases c : j + 1 < rows.length
      · exact c
      · have : j = rows.length - 1 := by omega
        rw [← this, hr] at hr'
        cases hr'
        rw [hl] at z
        cases z
    · obtain ⟨t1, t2, t3⟩ := rk.tgt t ht
      refine ⟨by omega, ?_, t3⟩
      unfold entR
      exact List.mem_append_left _ (List.mem_filterMap.mpr ⟨r, List.mem_of_getElem? hr, ht⟩)
  · have hd := sg.hd h hh
    refine ⟨hd.good, hd.se, by have := hd.e1; omega, by have := hd.t1; omega, ?_, hd.dt, s.low h hh⟩
    unfold entR
    exact List.mem_append_right _ (List.mem_map_of_mem hh)
end Law

/-! Pure03: law k03. -/
namespace Law
open PySem PySem.Spec PyProof.Rows L2 Pv
theorem Small.wi {rows : List Rw} {hds : List Hnd} (s : Small rows hds) : (∀ r ∈ rows, WI rows.length r.i) ∧ (∀ r ∈ rows, r.l ≤ 1000000) ∧ (∀ x ∈ hds, WH rows.length x) ∧ hds.length < 900 ∧ rows.length ≤ 199 ∧ 0 < rows.length ∧ ∃ r, rows[rows.length - 1]? = some r ∧ r.i.last = true := by
  obtain ⟨D, f⟩ := s.fit
  have h1 := f.len
  have h2 := f.few
  refine ⟨fun r hr => ?_, fun r hr => ?_, fun x hx => ?_, by omega, h1, f.pos, f.last⟩
  · obtain ⟨j, hj⟩ := List.getElem?_of_mem hr
    exact ⟨(f.row j r hj).good.1, fun t ht => ((f.row j r hj).tgt t ht).1⟩
  · obtain ⟨j, hj⟩ := List.getElem?_of_mem hr
    exact (f.row j r hj).good.2
  · obtain ⟨g, a, b, c, _, _, d⟩ := f.hd x hx
    exact ⟨g, a, by omega, c, d⟩
theorem Small.raw {rows : List Rw} {hds : List Hnd} (s : Small rows hds) : Raw rows hds := by
  obtain ⟨a, b, c, d, e, f, g⟩ := s.wi
  exact raw_of f e a b g c d
theorem Small.rawS {rows : List Rw} {hds : List Hnd} (s : Small rows hds) {j : Nat} {i : Itr} {l : Nat} (hj : j + 1 < rows.length) (hi : WI rows.length i) (hl : l ≤ 1000000) : Raw (rows.set j ⟨i, l⟩) hds := by
  obtain ⟨a, b, c, d, e, f, ⟨r, hr, h⟩⟩ := s.wi
  refine raw_of (by rw [List.length_set]; exact f) (by rw [List.length_set]; exact e) ?_ ?_ ?_ ?_ d
  · rw [List.length_set]; exact mem_set a hi
  · exact mem_set b hl
  · rw [List.length_set, List.getElem?_set_ne (by omega)]; exact ⟨r, hr, h⟩
  · rw [List.length_set]; exact c
theorem forms {n x : Nat} (h : x < 6) : ∃ i : Itr, WI n i ∧ [PV.con .own .tup [.str "pop"], .con .own .tup [.str "copy"], .con .own .tup [.str "add"], .con .own .tup [.str "skip"], .con .own .tup [.str "const", .int 1], .con .own .tup [.str "end"]].getD x .non = i.pv := by
  have no : ∀ {o : Opc}, WI n (.op o) := ⟨trivial, fun t h => by cases h⟩
  rcases x with _ | _ | _ | _ | _ | _ | x
  · exact ⟨.op .pop, no, rfl⟩
  · exact ⟨.op .copy, no, rfl⟩
  · exact ⟨.op .add, no, rfl⟩
  · exact ⟨.op .skip, no, rfl⟩
  · exact ⟨.c 1, ⟨⟨by decide, by decide⟩, fun t h => by cases h⟩, rfl⟩
  · exact ⟨.op .stop, no, rfl⟩
  · omega
theorem Raw.L3 {rows : List Rw} {hds : List Hnd} (raw : Raw rows hds) {S : Sto} {c : Nat} {lv hv : PV} (hc : S[c]? = some (some (.lst, pvs rows))) (hl : (∃ l, lv = .ref l ∧ S[l]? = some (some (.lst, lns rows))) ∨ lv = .con .own .lst (lns rows)) (hh : ∃ h, hv = .ref h ∧ S[h]? = some (some (.lst, hvs hds))) : L3 rows hds c lv hv S := by
  refine ⟨raw, hc, ?_, ?_⟩
  · rcases hl with ⟨l, rfl, e⟩ | rfl
    · exact ⟨.lent, lendR e raw.vals.cl, rfl⟩
    · exact ⟨.own, lendK raw.vals.cl, rfl⟩
  · obtain ⟨h, rfl, e⟩ := hh
    exact ⟨.lent, lendR e raw.vals.ch, rfl⟩
theorem i0_ok {ns : List Int} {s : PV} {c l h : Nat} {rows : List Rw} {hds : List Hnd} {S : Sto} {y5 y6 y7 y8 y9 : Option PV} (sm : Small rows hds) (d : DR 0 ns S) (oc : 0 < c) (ol : 0 < l) (oh : 0 < h) (dl : l ≠ c) (dh : h ≠ c) (hc : S[c]? = some (some (.lst, pvs rows))) (hl : S[l]? = some (some (.lst, lns rows))) (hh : S[h]? = some (some (.lst, hvs hds))) {P : RS → Prop}
    (q : ∀ (rows : List Rw) y9 S', L3 rows hds c (.ref l) (.ref h) S' → P (.nx (G3k s c (.ref l) (.ref h) y5 y6 y7 y8 y9) S')) :
    rsP (i0_law (G3k s c (.ref l) (.ref h) y5 y6 y7 y8 y9) S) P := by
  have n1 : (pvs rows).length = rows.length := List.length_map _
  have hp := sm.raw.pos
  have hz := sm.raw.len
  wtm_at "w"
  refine drawR d (by omega) (by omega) fun j S1 hj d1 e1 f1 => ?_
  have hc := (f1 c (by omega)).trans hc
  have hl := (f1 l (by omega)).trans hl
  have hh := (f1 h (by omega)).trans hh
  wtm_at "w"
  refine Pv.W.kD (fun e0 => ?_) fun e0 => ?_
  · wtm_at "w"
    refine drawR d1 (by omega) (by omega) fun x S2 hx d2 e2 f2 => ?_
    have hc := (f2 c (by omega)).trans hc
    have hl := (f2 l (by omega)).trans hl
    have hh := (f2 h (by omega)).trans hh
    refine ⟨_, _, pick (by simp; omega), ?_⟩
    obtain ⟨i, gi, ei⟩ := forms (n := rows.length) (x := x) (by omega)
    rw [ei]
    wtm_at "w"
    refine ⟨_, setF (j := j) hc (by omega), ?_⟩
    obtain ⟨r, hr⟩ : ∃ r, rows[j]? = some r := ⟨rows[j]'(by omega), List.getElem?_eq_getElem (by omega)⟩
    have hrl := sm.wi.2.1 r (List.mem_of_getElem? hr)
    refine q (rows.set j ⟨i, r.l⟩) _ _ ((sm.rawS (by omega) gi hrl).L3 ?_ (Or.inl ⟨l, rfl, ?_⟩) ⟨h, rfl, set_get hh (by omega)⟩)
    · rw [← pvs_set]
      exact set_new hc
    · rw [← lns_set (i := i)]
      refine (set_get hl (by omega)).trans ?_
      have : (lns rows).set j (.int (r.l : Nat)) = lns rows := by
        have h := lns_at hr
        rw [atI_nat] at h
        refine List.ext_getElem? fun k => ?_
        rw [List.getElem?_set]
        split
        · rename_i e
          subst e
          rw [h]
          have := (List.getElem?_eq_some_iff.mp h).1
          rw [if_pos this]
        · rfl
      rw [this]
  · wtm_at "w"
    exact q rows _ _ (sm.raw.L3 hc (Or.inl ⟨l, rfl, hl⟩) ⟨h, rfl, hh⟩)
theorem pure_law (ns : List Int) (hns : ns.length ≤ 63) : f_law [scr ns] = .ok (.bl true) := by
  refine Pv.W.rdP rfl ?_
  show rsP (body_law [some (scr ns), none, none, none, none, none, none, none, none, none] []) _
  have hb := begin_ok ns [] hns
  have d0 : DR 0 ns [drO ns 0 0 7] := ⟨0, 0, 7, rfl, by omega⟩
  have fin : ∀ r, okE r → ∃ u S, r = .rt u S ∧ resP S u = .ok (.bl true) := fun r ⟨S', e⟩ => ⟨_, _, e, rfl⟩
  refine rsP.mono ?_ fin
  unfold body_law
  wtm_at "ss"
  refine okR.of hb ?_
  wtm_at "ss"
  refine okR.mono (parts_ok d0 (Nat.lt_succ_self 0)) ?_
  rintro v S2 ⟨rows, hds, c, l, h, z, rfl, hz, hc, hl, hh, d2, pr, o1, o2, o3, o4, o5, hq, hB, hS0, hfr⟩
  refine okR.of (gUr hz) ?_
  wtm_at "ss"
  have sm : Small rows hds := ⟨pr, hq, hB⟩
  refine drawR d2 (by omega) (by omega) fun j S3 hj d3 e3 f3 => ?_
  have hc := (f3 c (by omega)).trans hc
  have hl := (f3 l (by omega)).trans hl
  have hh := (f3 h (by omega)).trans hh
  wtm_at "ss"
  refine Pv.W.kD (fun e0 => ?_) fun e0 => ?_
  · wtm_at "ss"
    refine okR.mono (wild_ok d3 (by omega)) ?_
    rintro v S4 ⟨z, rfl, ⟨rows, hds, c, b, hz, hc, hh, raw, d4, _, _⟩⟩
    refine okR.of (gUr hz) ?_
    wtm_at "s"
    exact k03_r7 (raw.L3 hc (Or.inr rfl) ⟨b, rfl, hh⟩)
  · wtm_at "ss"
    refine drawR d3 (by omega) (by omega) fun j S3 hj d3 e3 f3 => ?_
    have hc := (f3 c (by omega)).trans hc
    have hl := (f3 l (by omega)).trans hl
    have hh := (f3 h (by omega)).trans hh
    wtm_at "ss"
    refine Pv.W.kD (fun e0 => ?_) fun e0 => ?_
    · exact i0_ok sm d3 (by omega) (by omega) (by omega) (by omega) (by omega) hc hl hh fun rows y9 S' f => Pv.W.go (k03_r7 f)
    · wtm_at "s"
      wtm_at "s"
      exact k03_r7 (sm.raw.L3 hc (Or.inl ⟨l, rfl, hl⟩) ⟨h, rfl, hh⟩)
end Law

namespace Law
open PySem PySem.Spec PyProof.Rows L2 Pv
theorem facts {P : Program} {w : World} {K : PySem.W.Frag} {h : Heap} {mg : Str → Option Value} {f : Addr} (X : K.In h) (G : h.Ns mainGlobals mg) (hfa : mg ("law" : Str) = some (.ref f)) (c : He.SaysX faL fnL tsL [] exB w h K) :
    ∃ fd : FuncData, (∀ (s : Shared) (v : Value), BindsTo s fd ⟨[v], []⟩ [("_law_script", v)]) ∧ ∀ base : Heap, K.In base → base.Ns mainGlobals mg → FnOk P w K mg base (L2.CX P w) 17 f fd ["_law_script"] (spP ⟨K, mg⟩ f_law) := by
  have D_in_range : DefAt K mg "in_range" (topS 20) ["value", "least", "greatest"] := by
    obtain ⟨fd, F⟩ := c.t.d.def_ 0 (d := dd_in_range) rfl
    exact ⟨_, fd, F, He.glo_ok X G (c.t.d.fact 0 (f := .glo "in_range") rfl), FunD.bindsN F fun _ _ _ _ _ _ us hl => match us, hl with | [_, _, _], _ => rfl⟩
  have D_is_word : DefAt K mg "is_word" (topS 21) ["value"] := by
    obtain ⟨fd, F⟩ := c.t.d.def_ 1 (d := dd_is_word) rfl
    exact ⟨_, fd, F, He.glo_ok X G (c.t.d.fact 1 (f := .glo "is_word") rfl), FunD.bindsN F fun _ _ _ _ _ _ us hl => match us, hl with | [_], _ => rfl⟩
  have D_fits_form : DefAt K mg "fits_form" (topS 22) ["value"] := by
    obtain ⟨fd, F⟩ := c.t.d.def_ 2 (d := dd_fits_form) rfl
    exact ⟨_, fd, F, He.glo_ok X G (c.t.d.fact 2 (f := .glo "fits_form") rfl), FunD.bindsN F fun _ _ _ _ _ _ us hl => match us, hl with | [_], _ => rfl⟩
  have D_is_handler : DefAt K mg "is_handler" (topS 23) ["value", "many"] := by
    obtain ⟨fd, F⟩ := c.t.d.def_ 3 (d := dd_is_handler) rfl
    exact ⟨_, fd, F, He.glo_ok X G (c.t.d.fact 3 (f := .glo "is_handler") rfl), FunD.bindsN F fun _ _ _ _ _ _ us hl => match us, hl with | [_, _], _ => rfl⟩
  have D_raised_kind : DefAt K mg "raised_kind" (topS 24) ["instruction"] := by
    obtain ⟨fd, F⟩ := c.t.d.def_ 4 (d := dd_raised_kind) rfl
    exact ⟨_, fd, F, He.glo_ok X G (c.t.d.fact 4 (f := .glo "raised_kind") rfl), FunD.bindsN F fun _ _ _ _ _ _ us hl => match us, hl with | [_], _ => rfl⟩
  have D_receiver : DefAt K mg "receiver" (topS 25) ["handlers", "index", "kind"] := by
    obtain ⟨fd, F⟩ := c.t.d.def_ 5 (d := dd_receiver) rfl
    exact ⟨_, fd, F, He.glo_ok X G (c.t.d.fact 5 (f := .glo "receiver") rfl), FunD.bindsN F fun _ _ _ _ _ _ us hl => match us, hl with | [_, _, _], _ => rfl⟩
  have D_moves : DefAt K mg "moves" (topS 27) ["code", "handlers", "index"] := by
    obtain ⟨fd, F⟩ := c.t.d.def_ 6 (d := dd_moves) rfl
    exact ⟨_, fd, F, He.glo_ok X G (c.t.d.fact 6 (f := .glo "moves") rfl), FunD.bindsN F fun _ _ _ _ _ _ us hl => match us, hl with | [_, _, _], _ => rfl⟩
  have D_check_parts : DefAt K mg "check_parts" (topS 28) ["code", "lines", "handlers"] := by
    obtain ⟨fd, F⟩ := c.t.d.def_ 7 (d := dd_check_parts) rfl
    exact ⟨_, fd, F, He.glo_ok X G (c.t.d.fact 7 (f := .glo "check_parts") rfl), FunD.bindsN F fun _ _ _ _ _ _ us hl => match us, hl with | [_, _, _], _ => rfl⟩
  have D_depths_of : DefAt K mg "depths_of" (topS 29) ["code", "handlers"] := by
    obtain ⟨fd, F⟩ := c.t.d.def_ 8 (d := dd_depths_of) rfl
    exact ⟨_, fd, F, He.glo_ok X G (c.t.d.fact 8 (f := .glo "depths_of") rfl), FunD.bindsN F fun _ _ _ _ _ _ us hl => match us, hl with | [_, _], _ => rfl⟩
  obtain ⟨fd_Unit_init, F_Unit_init⟩ := c.t.d.def_ 9 (d := dd_Unit_init) rfl
  have D_exits : DefAt K mg "exits" (topS 31) ["unit", "index"] := by
    obtain ⟨fd, F⟩ := c.t.d.def_ 10 (d := dd_exits) rfl
    exact ⟨_, fd, F, He.glo_ok X G (c.t.d.fact 10 (f := .glo "exits") rfl), FunD.bindsN F fun _ _ _ _ _ _ us hl => match us, hl with | [_, _], _ => rfl⟩
  have D_law_begin : DefAt K mg "_law_begin" (topS 33) ["_law_script"] := by
    obtain ⟨fd, F⟩ := c.t.d.def_ 11 (d := dd_law_begin) rfl
    exact ⟨_, fd, F, He.glo_ok X G (c.t.d.fact 11 (f := .glo "_law_begin") rfl), FunD.bindsN F fun _ _ _ _ _ _ us hl => match us, hl with | [_], _ => rfl⟩
  have D_law_draw : DefAt K mg "_law_draw" (topS 34) ["_law_draws", "_law_many"] := by
    obtain ⟨fd, F⟩ := c.t.d.def_ 12 (d := dd_law_draw) rfl
    exact ⟨_, fd, F, He.glo_ok X G (c.t.d.fact 12 (f := .glo "_law_draw") rfl), FunD.bindsN F fun _ _ _ _ _ _ us hl => match us, hl with | [_, _], _ => rfl⟩
  have D_law_number : DefAt K mg "_law_number" (topS 36) ["_law_draws"] := by
    obtain ⟨fd, F⟩ := c.t.d.def_ 13 (d := dd_law_number) rfl
    exact ⟨_, fd, F, He.glo_ok X G (c.t.d.fact 13 (f := .glo "_law_number") rfl), FunD.bindsN F fun _ _ _ _ _ _ us hl => match us, hl with | [_], _ => rfl⟩
  have D_law_line : DefAt K mg "_law_line" (topS 37) ["_law_draws"] := by
    obtain ⟨fd, F⟩ := c.t.d.def_ 14 (d := dd_law_line) rfl
    exact ⟨_, fd, F, He.glo_ok X G (c.t.d.fact 14 (f := .glo "_law_line") rfl), FunD.bindsN F fun _ _ _ _ _ _ us hl => match us, hl with | [_], _ => rfl⟩
  have D_law_value : DefAt K mg "_law_value" (topS 38) ["_law_draws", "_law_rows", "_law_line_here"] := by
    obtain ⟨fd, F⟩ := c.t.d.def_ 15 (d := dd_law_value) rfl
    exact ⟨_, fd, F, He.glo_ok X G (c.t.d.fact 15 (f := .glo "_law_value") rfl), FunD.bindsN F fun _ _ _ _ _ _ us hl => match us, hl with | [_, _, _], _ => rfl⟩
  have D_law_plain : DefAt K mg "_law_plain" (topS 39) ["_law_draws", "_law_rows"] := by
    obtain ⟨fd, F⟩ := c.t.d.def_ 16 (d := dd_law_plain) rfl
    exact ⟨_, fd, F, He.glo_ok X G (c.t.d.fact 16 (f := .glo "_law_plain") rfl), FunD.bindsN F fun _ _ _ _ _ _ us hl => match us, hl with | [_, _], _ => rfl⟩
  have D_law_choice : DefAt K mg "_law_choice" (topS 40) ["_law_draws", "_law_rows", "_law_handlers", "_law_deep", "_law_base"] := by
    obtain ⟨fd, F⟩ := c.t.d.def_ 17 (d := dd_law_choice) rfl
    exact ⟨_, fd, F, He.glo_ok X G (c.t.d.fact 17 (f := .glo "_law_choice") rfl), FunD.bindsN F fun _ _ _ _ _ _ us hl => match us, hl with | [_, _, _, _, _], _ => rfl⟩
  have D_law_loop : DefAt K mg "_law_loop" (topS 41) ["_law_draws", "_law_rows", "_law_handlers", "_law_deep", "_law_base"] := by
    obtain ⟨fd, F⟩ := c.t.d.def_ 18 (d := dd_law_loop) rfl
    exact ⟨_, fd, F, He.glo_ok X G (c.t.d.fact 18 (f := .glo "_law_loop") rfl), FunD.bindsN F fun _ _ _ _ _ _ us hl => match us, hl with | [_, _, _, _, _], _ => rfl⟩
  have D_law_guard : DefAt K mg "_law_guard" (topS 42) ["_law_draws", "_law_rows", "_law_handlers", "_law_deep", "_law_base"] := by
    obtain ⟨fd, F⟩ := c.t.d.def_ 19 (d := dd_law_guard) rfl
    exact ⟨_, fd, F, He.glo_ok X G (c.t.d.fact 19 (f := .glo "_law_guard") rfl), FunD.bindsN F fun _ _ _ _ _ _ us hl => match us, hl with | [_, _, _, _, _], _ => rfl⟩
  have D_law_body : DefAt K mg "_law_body" (topS 43) ["_law_draws", "_law_rows", "_law_handlers", "_law_deep", "_law_base"] := by
    obtain ⟨fd, F⟩ := c.t.d.def_ 20 (d := dd_law_body) rfl
    exact ⟨_, fd, F, He.glo_ok X G (c.t.d.fact 20 (f := .glo "_law_body") rfl), FunD.bindsN F fun _ _ _ _ _ _ us hl => match us, hl with | [_, _, _, _, _], _ => rfl⟩
  have D_law_parts : DefAt K mg "_law_parts" (topS 44) ["_law_draws"] := by
    obtain ⟨fd, F⟩ := c.t.d.def_ 21 (d := dd_law_parts) rfl
    exact ⟨_, fd, F, He.glo_ok X G (c.t.d.fact 21 (f := .glo "_law_parts") rfl), FunD.bindsN F fun _ _ _ _ _ _ us hl => match us, hl with | [_], _ => rfl⟩
  have D_law_exits : DefAt K mg "_law_exits" (topS 46) ["_law_code", "_law_handlers", "_law_index"] := by
    obtain ⟨fd, F⟩ := c.t.d.def_ 22 (d := dd_law_exits) rfl
    exact ⟨_, fd, F, He.glo_ok X G (c.t.d.fact 22 (f := .glo "_law_exits") rfl), FunD.bindsN F fun _ _ _ _ _ _ us hl => match us, hl with | [_, _, _], _ => rfl⟩
  have D_law_like : DefAt K mg "_law_like" (topS 48) ["_law_actual", "_law_due"] := by
    obtain ⟨fd, F⟩ := c.t.d.def_ 23 (d := dd_law_like) rfl
    exact ⟨_, fd, F, He.glo_ok X G (c.t.d.fact 23 (f := .glo "_law_like") rfl), FunD.bindsN F fun _ _ _ _ _ _ us hl => match us, hl with | [_, _], _ => rfl⟩
  have D_law_wild : DefAt K mg "_law_wild" (topS 49) ["_law_draws"] := by
    obtain ⟨fd, F⟩ := c.t.d.def_ 24 (d := dd_law_wild) rfl
    exact ⟨_, fd, F, He.glo_ok X G (c.t.d.fact 24 (f := .glo "_law_wild") rfl), FunD.bindsN F fun _ _ _ _ _ _ us hl => match us, hl with | [_], _ => rfl⟩
  have D_law_change : DefAt K mg "_law_change" (topS 50) ["_law_one"] := by
    obtain ⟨fd, F⟩ := c.t.d.def_ 25 (d := dd_law_change) rfl
    exact ⟨_, fd, F, He.glo_ok X G (c.t.d.fact 25 (f := .glo "_law_change") rfl), FunD.bindsN F fun _ _ _ _ _ _ us hl => match us, hl with | [_], _ => rfl⟩
  have D_law_handler_depth : DefAt K mg "_law_handler_depth" (topS 51) ["_law_code", "_law_handlers", "_law_index"] := by
    obtain ⟨fd, F⟩ := c.t.d.def_ 26 (d := dd_law_handler_depth) rfl
    exact ⟨_, fd, F, He.glo_ok X G (c.t.d.fact 26 (f := .glo "_law_handler_depth") rfl), FunD.bindsN F fun _ _ _ _ _ _ us hl => match us, hl with | [_, _, _], _ => rfl⟩
  have D_law_depths : DefAt K mg "_law_depths" (topS 52) ["_law_code", "_law_handlers"] := by
    obtain ⟨fd, F⟩ := c.t.d.def_ 27 (d := dd_law_depths) rfl
    exact ⟨_, fd, F, He.glo_ok X G (c.t.d.fact 27 (f := .glo "_law_depths") rfl), FunD.bindsN F fun _ _ _ _ _ _ us hl => match us, hl with | [_, _], _ => rfl⟩
  obtain ⟨fd, F⟩ := c.t.d.def_ 28 (d := dd_law) rfl
  have z_bool : mg "bool" = none := He.free_ok X G (c.t.d.fact 29 (f := .free "bool") rfl)
  have z_isinstance : mg "isinstance" = none := He.free_ok X G (c.t.d.fact 30 (f := .free "isinstance") rfl)
  have z_int : mg "int" = none := He.free_ok X G (c.t.d.fact 31 (f := .free "int") rfl)
  have z_len : mg "len" = none := He.free_ok X G (c.t.d.fact 32 (f := .free "len") rfl)
  have z_str : mg "str" = none := He.free_ok X G (c.t.d.fact 33 (f := .free "str") rfl)
  have z_tuple : mg "tuple" = none := He.free_ok X G (c.t.d.fact 34 (f := .free "tuple") rfl)
  have z_enumerate : mg "enumerate" = none := He.free_ok X G (c.t.d.fact 35 (f := .free "enumerate") rfl)
  have z_max : mg "max" = none := He.free_ok X G (c.t.d.fact 36 (f := .free "max") rfl)
  have z_range : mg "range" = none := He.free_ok X G (c.t.d.fact 37 (f := .free "range") rfl)
  have z_sorted : mg "sorted" = none := He.free_ok X G (c.t.d.fact 38 (f := .free "sorted") rfl)
  have z_list : mg "list" = none := He.free_ok X G (c.t.d.fact 39 (f := .free "list") rfl)
  have z_set : mg "set" = none := He.free_ok X G (c.t.d.fact 40 (f := .free "set") rfl)
  have more := c.more
  simp only [exB, Bool.and_eq_true] at more
  have k_LETTERS : ∃ t, mg "LETTERS" = some (.str c_LETTERS t) := He.str_ok X G (c.t.d.fact 41 (f := .str "LETTERS" c_LETTERS) rfl)
  have k_PLAIN : WTup K mg "PLAIN" c_PLAIN := wtup_of X G (c.t.d.fact 42 (f := .glo "PLAIN") rfl) more.1
  have k_NAMED : WTup K mg "NAMED" c_NAMED := wtup_of X G (c.t.d.fact 43 (f := .glo "NAMED") rfl) more.2.1
  have k_JUMPS : WTup K mg "JUMPS" c_JUMPS := wtup_of X G (c.t.d.fact 44 (f := .glo "JUMPS") rfl) more.2.2.1
  have k_LAST : WTup K mg "LAST" c_LAST := wtup_of X G (c.t.d.fact 45 (f := .glo "LAST") rfl) more.2.2.2.1
  have k_GREATEST : ∃ t, mg "GREATEST" = some (.int c_GREATEST t) := He.int_ok X G (c.t.d.fact 46 (f := .int "GREATEST" c_GREATEST) rfl)
  have k_LINES : ∃ t, mg "LINES" = some (.int c_LINES t) := He.int_ok X G (c.t.d.fact 47 (f := .int "LINES" c_LINES) rfl)
  have k_MOST : ∃ t, mg "MOST" = some (.int c_MOST t) := He.int_ok X G (c.t.d.fact 48 (f := .int "MOST" c_MOST) rfl)
  have x_BadCode := excB_ok X G more.2.2.2.2.1
  have x_FallsOff := excB_ok X G more.2.2.2.2.2.1
  have x_BadDepth := excB_ok X G more.2.2.2.2.2.2.1
  have x_BadInstruction : ∀ base, ExcI P w K mg base "BadInstruction" "index" (He.ga K "BadInstruction") := fun base => by
    obtain ⟨fd, F⟩ := c.t.d.def_ 29 (d := dd_ini_BadInstruction) rfl
    exact (oexB_ok X G more.2.2.2.2.2.2.2.1).ok (st := ini_BadInstruction) (dvs := []) (kws := []) F (FunD.bindsN F fun _ _ _ _ _ _ us hl => match us, hl with | [_, _], _ => rfl) ⟨rfl, rfl, rfl, by decide +kernel, rfl, by decide +kernel, by decide +kernel⟩ rfl (by decide +kernel) (by decide +kernel)
  have x_BadTarget : ∀ base, ExcI P w K mg base "BadTarget" "index" (He.ga K "BadTarget") := fun base => by
    obtain ⟨fd, F⟩ := c.t.d.def_ 30 (d := dd_ini_BadTarget) rfl
    exact (oexB_ok X G more.2.2.2.2.2.2.2.2.1).ok (st := ini_BadTarget) (dvs := []) (kws := []) F (FunD.bindsN F fun _ _ _ _ _ _ us hl => match us, hl with | [_, _], _ => rfl) ⟨rfl, rfl, rfl, by decide +kernel, rfl, by decide +kernel, by decide +kernel⟩ rfl (by decide +kernel) (by decide +kernel)
  have x_BadLine : ∀ base, ExcI P w K mg base "BadLine" "index" (He.ga K "BadLine") := fun base => by
    obtain ⟨fd, F⟩ := c.t.d.def_ 31 (d := dd_ini_BadLine) rfl
    exact (oexB_ok X G more.2.2.2.2.2.2.2.2.2.1).ok (st := ini_BadLine) (dvs := []) (kws := []) F (FunD.bindsN F fun _ _ _ _ _ _ us hl => match us, hl with | [_, _], _ => rfl) ⟨rfl, rfl, rfl, by decide +kernel, rfl, by decide +kernel, by decide +kernel⟩ rfl (by decide +kernel) (by decide +kernel)
  have x_BadHandler : ∀ base, ExcI P w K mg base "BadHandler" "index" (He.ga K "BadHandler") := fun base => by
    obtain ⟨fd, F⟩ := c.t.d.def_ 32 (d := dd_ini_BadHandler) rfl
    exact (oexB_ok X G more.2.2.2.2.2.2.2.2.2.2.1).ok (st := ini_BadHandler) (dvs := []) (kws := []) F (FunD.bindsN F fun _ _ _ _ _ _ us hl => match us, hl with | [_, _], _ => rfl) ⟨rfl, rfl, rfl, by decide +kernel, rfl, by decide +kernel, by decide +kernel⟩ rfl (by decide +kernel) (by decide +kernel)
  have m_BadDepth := exmB_ok X G more.2.2.2.2.2.2.2.2.2.2.2.1
  have p_REMOVED : WMap K w mg "REMOVED" c_REMOVED := mapB_ok X G more.2.2.2.2.2.2.2.2.2.2.2.2.1 (c.t.tab 0) more.2.2.2.2.2.2.2.2.2.2.2.2.2.1
  have p_PUSHED : WMap K w mg "PUSHED" c_PUSHED := mapB_ok X G more.2.2.2.2.2.2.2.2.2.2.2.2.2.2.1 (c.t.tab 1) more.2.2.2.2.2.2.2.2.2.2.2.2.2.2.2.1
  have a_Unit_code := attB_ok X G more.2.2.2.2.2.2.2.2.2.2.2.2.2.2.2.2.1
  have a_Unit_lines := attB_ok X G more.2.2.2.2.2.2.2.2.2.2.2.2.2.2.2.2.2.1
  have a_Unit_handlers := attB_ok X G more.2.2.2.2.2.2.2.2.2.2.2.2.2.2.2.2.2.2.1
  have a_Unit_found_depths := attB_ok X G more.2.2.2.2.2.2.2.2.2.2.2.2.2.2.2.2.2.2.2.1
  have pr_Unit_depths := propB_ok X G more.2.2.2.2.2.2.2.2.2.2.2.2.2.2.2.2.2.2.2.2.1
  have mg_Unit := He.glo_ok X G more.2.2.2.2.2.2.2.2.2.2.2.2.2.2.2.2.2.2.2.2.2.1
  have mm_Unit := He.mkr_ok more.2.2.2.2.2.2.2.2.2.2.2.2.2.2.2.2.2.2.2.2.2.2.1
  have df_Unit_0 := dfT_ok (mg := mg) more.2.2.2.2.2.2.2.2.2.2.2.2.2.2.2.2.2.2.2.2.2.2.2.1
  have e := hfa.symm.trans (He.glo_ok X G (c.t.d.fact 28 (f := .glo "law") rfl))
  cases e
  refine ⟨fd, fun s v => FunD.bindsA (ps := ["_law_script"]) F (fun _ _ _ _ _ _ us hl => match us, hl with | [_], _ => rfl) s [v] rfl, fun base _ _ => ?_⟩
  have x_BadInstruction := x_BadInstruction base
  have x_BadTarget := x_BadTarget base
  have x_BadLine := x_BadLine base
  have x_BadHandler := x_BadHandler base
  have c_in_range := d_in_range (P := P) (w := w) (base := base) D_in_range z_bool z_isinstance z_int
  have c_is_word := d_is_word (P := P) (w := w) (base := base) D_is_word z_len z_str z_isinstance k_LETTERS
  have c_raised_kind := d_raised_kind (P := P) (w := w) (base := base) D_raised_kind 
  have c_receiver := d_receiver (P := P) (w := w) (base := base) D_receiver 
  have c_law_begin := d_law_begin (P := P) (w := w) (base := base) D_law_begin z_list
  have c_law_draw := d_law_draw (P := P) (w := w) (base := base) D_law_draw z_len z_int
  have c_law_exits := d_law_exits (P := P) (w := w) (base := base) D_law_exits z_sorted z_set
  have c_law_like := d_law_like (P := P) (w := w) (base := base) D_law_like z_bool z_isinstance z_int z_str z_tuple z_len z_list z_range 10
  have c_law_change := d_law_change (P := P) (w := w) (base := base) D_law_change z_int
  have c_law_handler_depth := d_law_handler_depth (P := P) (w := w) (base := base) D_law_handler_depth 
  have c_fits_form := d_fits_form (P := P) (w := w) (base := base) D_fits_form c_in_range c_is_word z_str z_isinstance z_len z_tuple k_PLAIN k_GREATEST k_NAMED z_bool z_int k_JUMPS
  have c_is_handler := d_is_handler (P := P) (w := w) (base := base) D_is_handler c_in_range c_is_word z_len z_tuple z_isinstance k_MOST
  have c_moves := d_moves (P := P) (w := w) (base := base) D_moves c_raised_kind c_receiver z_len k_LAST k_JUMPS
  have c_law_number := d_law_number (P := P) (w := w) (base := base) D_law_number c_law_draw
  have c_law_line := d_law_line (P := P) (w := w) (base := base) D_law_line c_law_draw
  have c_law_depths := d_law_depths (P := P) (w := w) (base := base) D_law_depths c_law_change c_law_handler_depth z_len z_tuple
  have c_check_parts := d_check_parts (P := P) (w := w) (base := base) D_check_parts c_fits_form c_is_handler c_in_range z_len k_MOST x_BadCode z_enumerate x_BadInstruction k_JUMPS x_BadTarget z_max z_range k_LINES x_BadLine x_BadHandler k_LAST x_FallsOff
  have c_depths_of := d_depths_of (P := P) (w := w) (base := base) D_depths_of c_moves z_len p_REMOVED x_BadDepth p_PUSHED z_tuple
  have c_exits := d_exits (P := P) (w := w) (base := base) D_exits c_moves a_Unit_code a_Unit_handlers z_sorted
  have c_law_value := d_law_value (P := P) (w := w) (base := base) D_law_value c_law_draw c_law_number
  have c_law_wild := d_law_wild (P := P) (w := w) (base := base) D_law_wild c_law_draw c_law_line z_range z_len
  have h_Unit_init := d_Unit_init (P := P) (w := w) (base := base) F_Unit_init c_check_parts c_depths_of a_Unit_code z_tuple a_Unit_lines a_Unit_handlers a_Unit_found_depths
  have mk3_Unit : Mka P w K mg base 4 "Unit" i_Unit_init 3 [] := by
    obtain ⟨ds, hd, hb⟩ := FunD.binds1 F_Unit_init (ps := ["self", "code", "lines", "handlers"]) 4 1 (List.cons_ne_nil _ _) rfl (fun T kV doc pm an cdv ct us its hl hi => match us, hl, its, hi with | [_, _, _, _], _, [_], _ => ⟨_, rfl, rfl⟩)
    exact ⟨_, _, _, _, _, ds, mm_Unit, h_Unit_init, mg_Unit, hb, hd, by rw [← hd.length]; rfl, fun H g => RVs.nil⟩
  have c_law_plain := d_law_plain (P := P) (w := w) (base := base) D_law_plain c_law_line c_law_draw c_law_value z_len
  have fam_law_body := d_fam_law_body (P := P) (w := w) (base := base) D_law_choice D_law_loop D_law_guard D_law_body c_law_line c_law_value c_law_draw z_len c_law_plain c_law_number z_range 10
  have c_law_choice := fam_law_body.1
  have c_law_loop := fam_law_body.2.1
  have c_law_guard := fam_law_body.2.2.1
  have c_law_body := fam_law_body.2.2.2
  have c_law_parts := d_law_parts (P := P) (w := w) (base := base) D_law_parts c_law_body c_law_draw c_law_line z_range
  exact d_law F c_law_begin c_law_parts c_law_depths c_law_draw c_law_wild c_law_like c_exits c_law_exits z_len mk3_Unit pr_Unit_depths m_BadDepth z_list z_range
end Law
open PySem PySem.W PySem.Calls PyProof.Rows
theorem PySem.Challenge.cw_codetables_k03_whole_depths_holds : PySem.Challenge.rw_codetables_k03_whole_depths.Holds := by
  w_on; o_law
  refine HandSHeadRun.head_any (r := OpenLaw.row PySem.Challenge.rw_codetables_k03_whole_depths) (q := view (OpenLaw.row PySem.Challenge.rw_codetables_k03_whole_depths).prog [53]) (H := Law.hk) (ob := Law.ob) (M := 9000) (loose := Law.looseL) (d := HandSHeadRun.topDef (OpenLaw.row PySem.Challenge.rw_codetables_k03_whole_depths).prog 53) (kwd := []) Law.ob_eq
    (by kernel_rfl) (fun s => by kernel_rfl) Law.run (by kernel_rfl) (by kernel_rfl) (by kernel_rfl) (by rfl) (by first | assumption | decide +kernel) (by decide +kernel) ⟨rfl, rfl, rfl, rfl, rfl, by decide +kernel⟩ ?hw ?hc
  case hw => w_witness2
  case hc =>
    refine Pv.law_end (l := PySem.Challenge.rw_codetables_k03_whole_depths) (n := 63) (k := 17) (x := "_law_script") rfl (by decide) (by kernel_rfl) ⟨rfl, by decide, by decide⟩ ?F
    intro w mg fa h Y G hmg0
    obtain ⟨K, KX, c⟩ := Y
    have hmg : mg ("law" : PySem.Str) = some (.ref fa) := by
      have e : (HandSHeadRun.topDef (OpenLaw.row PySem.Challenge.rw_codetables_k03_whole_depths).prog 53).name = ("law" : PySem.Str) := by kernel_rfl
      rw [← e]
      exact hmg0
    obtain ⟨fd, hb, hF⟩ := Law.facts (P := (PySem.Challenge.rw_codetables_k03_whole_depths).prog) (w := w) KX G hmg c
    exact ⟨K, Law.f_law, fd, KX, hb, Law.pure_law, hF⟩

