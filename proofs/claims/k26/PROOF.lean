import PyProof.Rows.All
import Wide.All
import OpenK.AllK
import Wide.FinOn
import HandS.Base
import HandS.Call
import HandS.List
import HandS.Exc
import HandS.ExcOwn
import HandS.Comp
import HandS.Words
import KE.DataEq
import HandS.Text
import HandS.TupAny
import HandS.WordsExc
import HandS.Defaults
import HandS.Iter
import HandS.Conv
import HandS.More
import HandS.Replace
import HandS.Small
import HandS.IsInst
import HandS.SortInts
import HandS.HeadHook4
import HandS.HeadEnd
import HandS.Head2
import HandS.Deep
import HandS.ExcInit
import HandS.TryMany
import HandS.NoneIn
import HandS.Steps
import HandS.ExcField
import HandS.ExcIs
import KE.KExcIs
import PySem.Challenge.RW_codetables_k26_packed_lines_refused
set_option Elab.async false
set_option linter.all false
set_option maxRecDepth 100000
set_option maxHeartbeats 4000000
/-! Pv1: plain values, the store of changing objects, what stands for what, readings by functions. -/
namespace Pv
open PySem PySem.Spec PyProof.Rows L2

/-- kinds of objects with parts -/
inductive Kd where
  | tup | lst | ins (c : Str) (ns : List Str) | dk (ks : List Key) | dt (ks : List (List Key))
  deriving DecidableEq
/-- how an object stands that doesn't change while it is looked at: for good, lent for a call, or outside (locked, or written by the text's top) -/
inductive Md where
  | own | lent | out
  deriving DecidableEq
/-- plain values: con m k xs stands for an object that doesn't change while it is looked at; ref n for the n-th changing object -/
inductive PV where
  | non | bl (b : Bool) | int (i : Int) | str (s : Str) | con (m : Md) (k : Kd) (xs : List PV) | ref (n : Nat) | fn (x : Str) | ty (n : String)
abbrev Sto := List (Option (Kd × List PV))
abbrev Gam := List (Option PV)
inductive R (α : Type) where
  | ok (a : α) (S : Sto) | ex (c : Str) (fs : List (Str × PV)) (S : Sto) | bad
def R.bind {α β : Type} (r : R α) (k : α → Sto → R β) : R β := match r with
  | .ok a S => k a S
  | .ex c fs S => .ex c fs S
  | .bad => .bad
structure G where
  F : Addr → Prop
  T : Addr → Prop
  r : Nat → Addr

def HOof (mg : Str → Option Value) : Kd → List V → HO → Prop
  | .tup, vs, o => o = .tup vs
  | .lst, vs, o => o = .lst vs
  | .ins c ns, vs, o => ∃ C dx, mg c = some (.ref C) ∧ ns.length = vs.length ∧ o = .ins C dx (ns.zip vs)
  | .dk ks, vs, o => ks.length = vs.length ∧ o = .dK (ks.zip vs)
  | .dt ks, vs, o => ks.length = vs.length ∧ o = .dT (ks.zip vs)
/-- the written part and what the module's names hold -/
structure Kx where
  K : PySem.W.Frag
  mg : Str → Option Value
def kx (X : Cx) : Kx := ⟨X.K, X.mg⟩
instance : Coe Cx Kx := ⟨kx⟩
/-- an object of the written part -/
def Wr (K : PySem.W.Frag) (a : Addr) : Kd → List V → Prop
  | .lst, xs => ∃ (o : Obj) (its : Array Value) (n : Nat), K.lookup a = some o ∧ o.cls = .type "list" ∧ o.dict = none ∧ o.data = .seq its n ∧ its.size ≤ sizeLine ∧ Vals xs its.toList
  | .tup, xs => ∃ (o : Obj) (its : Array Value) (n : Nat), K.lookup a = some o ∧ o.cls = .type "tuple" ∧ o.data = .seq its n ∧ its.size ≤ sizeLine ∧ Vals xs its.toList
  | _, _ => False
/-- what may be read at a as (k, vs) -/
def At (X : Kx) (H : Hp) (g : G) (m : Md) (a : Addr) (k : Kd) (vs : List V) : Prop := match m with
  | .own => ∃ o, HOof X.mg k vs o ∧ H a = some o ∧ (Mut (some o) → g.F a)
  | .lent => ∃ o, HOof X.mg k vs o ∧ H a = some o ∧ (Mut (some o) → g.T a)
  | .out => (∃ ob o, HOof X.mg k vs o ∧ H a = some (.frz ob o)) ∨ Wr X.K a k vs

mutual
def RV (X : Kx) (H : Hp) (g : G) (L : Nat) : PV → V → Prop
  | .non, v => v = .non
  | .bl b, v => v = .bl b
  | .int i, v => v = .int i
  | .str s, v => v = .str s
  | .con m k xs, v => ∃ a vs, v = .ref a ∧ At X H g m a k vs ∧ RVs X H g L xs vs
  | .ref n, v => n < L ∧ v = .ref (g.r n)
  | .fn x, v => ∃ a, X.mg x = some (.ref a) ∧ v = .ref a
  | .ty n, v => v = .ty n
def RVs (X : Kx) (H : Hp) (g : G) (L : Nat) : List PV → List V → Prop
  | [], vs => vs = []
  | x :: xs, vs => ∃ v r, vs = v :: r ∧ RV X H g L x v ∧ RVs X H g L xs r
end

/-- alive in the store -/
def Al (S : Sto) (n : Nat) : Prop := ∃ q, S[n]? = some (some q)
structure Rel (X : Kx) (H : Hp) (g : G) (S : Sto) : Prop where
  ob : ∀ n k xs, S[n]? = some (some (k, xs)) → ∃ o vs, H (g.r n) = some o ∧ HOof X.mg k vs o ∧ k ≠ .tup ∧ RVs X H g S.length xs vs
  inj : ∀ n m, Al S n → Al S m → g.r n = g.r m → n = m
  fF : ∀ n, Al S n → ¬ g.F (g.r n)
  fT : ∀ n, Al S n → ¬ g.T (g.r n)
  tr : ∀ a, g.F a ∨ g.T a → ∃ o, H a = some o
structure Ext (X : Kx) (H : Hp) (g : G) (S : Sto) (H' : Hp) (g' : G) (S' : Sto) : Prop where
  rel : Rel X H' g' S'
  frame : ∀ a o, H a = some o → (∀ n, Al S n → g.r n ≠ a) → H' a = some o
  old : ∀ n, Al S' n → (Al S n ∧ g'.r n = g.r n) ∨ H (g'.r n) = none
  rho : ∀ n, n < S.length → g'.r n = g.r n
  len : S.length ≤ S'.length
  fr : ∀ a, g.F a → g'.F a
  tt : g'.T = g.T
  trk : ∀ a o, H a = some o → ∃ o', H' a = some o'
  nf : ∀ a, g'.F a → g.F a ∨ H a = none ∨ ∃ n, Al S n ∧ g.r n = a

section
variable {X : Kx} {H H' H'' : Hp} {g g' g'' : G} {S S' S'' : Sto}
theorem HOof.mut {mg : Str → Option Value} {k : Kd} {vs : List V} {o : HO} (h : HOof mg k vs o) (hk : k ≠ .tup) : Mut (some o) := by
  cases k with
  | tup => exact absurd rfl hk
  | lst => cases h; exact trivial
  | ins c ns => obtain ⟨_, _, _, _, rfl⟩ := h; exact trivial
  | dk ks => obtain ⟨_, rfl⟩ := h; exact trivial
  | dt ks => obtain ⟨_, rfl⟩ := h; exact trivial
theorem Rel.mut (x : Rel X H g S) {n : Nat} (h : Al S n) : Mut (H (g.r n)) := by
  obtain ⟨⟨k, xs⟩, e⟩ := h
  obtain ⟨o, vs, e1, ho, hk, _⟩ := x.ob n k xs e
  rw [e1]
  exact ho.mut hk
/-- what is read stays -/
structure Up (H : Hp) (g : G) (L : Nat) (H' : Hp) (g' : G) (L' : Nat) : Prop where
  keep : ∀ a o, H a = some o → (Mut (some o) → g.F a ∨ g.T a) → H' a = some o
  fr : ∀ a, g.F a → g'.F a
  tt : ∀ a, g.T a → g'.T a
  rho : ∀ n, n < L → g'.r n = g.r n
  len : L ≤ L'
theorem At.mono {L L' : Nat} {m : Md} {a : Addr} {k : Kd} {vs : List V} (u : Up H g L H' g' L') (h : At X H g m a k vs) : At X H' g' m a k vs := by
  cases m with
  | own => obtain ⟨o, h1, h2, h3⟩ := h; exact ⟨o, h1, u.keep a o h2 fun z => Or.inl (h3 z), fun z => u.fr a (h3 z)⟩
  | lent => obtain ⟨o, h1, h2, h3⟩ := h; exact ⟨o, h1, u.keep a o h2 fun z => Or.inr (h3 z), fun z => u.tt a (h3 z)⟩
  | out =>
    rcases h with ⟨ob, o, h1, h2⟩ | h
    · exact Or.inl ⟨ob, o, h1, u.keep a _ h2 fun z => False.elim z⟩
    · exact Or.inr h
mutual
theorem RV.mono {L L' : Nat} (u : Up H g L H' g' L') : ∀ (p : PV) (v : V), RV X H g L p v → RV X H' g' L' p v
  | .non, _, h => h
  | .bl _, _, h => h
  | .int _, _, h => h
  | .str _, _, h => h
  | .fn _, _, h => h
  | .ty _, _, h => h
  | .ref n, v, h => by
    simp only [RV] at h ⊢
    obtain ⟨h1, h2⟩ := h
    exact ⟨Nat.lt_of_lt_of_le h1 u.len, by rw [u.rho n h1]; exact h2⟩
  | .con m k xs, v, h => by
    simp only [RV] at h ⊢
    obtain ⟨a, vs, h1, h2, h3⟩ := h
    exact ⟨a, vs, h1, h2.mono u, RVs.mono u xs vs h3⟩
theorem RVs.mono {L L' : Nat} (u : Up H g L H' g' L') : ∀ (p : List PV) (v : List V), RVs X H g L p v → RVs X H' g' L' p v
  | [], _, h => h
  | x :: xs, vs, h => by
    simp only [RVs] at h ⊢
    obtain ⟨v, r, h1, h2, h3⟩ := h
    exact ⟨v, r, h1, RV.mono u x v h2, RVs.mono u xs r h3⟩
end
theorem Ext.up (rel : Rel X H g S) (e : Ext X H g S H' g' S') : Up H g S.length H' g' S'.length where
  keep := fun a o h k => e.frame a o h fun n hn z => by
    subst z
    have m := rel.mut hn
    rw [h] at m
    rcases k m with q | q
    · exact rel.fF n hn q
    · exact rel.fT n hn q
  fr := e.fr
  tt := fun a h => by rw [e.tt]; exact h
  rho := e.rho
  len := e.len
theorem RV.up (rel : Rel X H g S) (e : Ext X H g S H' g' S') (p : PV) (v : V) (h : RV X H g S.length p v) : RV X H' g' S'.length p v := RV.mono (e.up rel) p v h
theorem RVs.up (rel : Rel X H g S) (e : Ext X H g S H' g' S') (p : List PV) (v : List V) (h : RVs X H g S.length p v) : RVs X H' g' S'.length p v := RVs.mono (e.up rel) p v h
theorem Ext.refl (rel : Rel X H g S) : Ext X H g S H g S := ⟨rel, fun _ _ h _ => h, fun _ h => Or.inl ⟨h, rfl⟩, fun _ _ => rfl, Nat.le_refl _, fun _ h => h, rfl, fun _ o h => ⟨o, h⟩, fun _ h => Or.inl h⟩
theorem Ext.trans (a : Ext X H g S H' g' S') (b : Ext X H' g' S' H'' g'' S'') : Ext X H g S H'' g'' S'' where
  rel := b.rel
  frame := fun x o h hn => b.frame x o (a.frame x o h hn) fun n hn' z => by
    rcases a.old n hn' with ⟨h1, h2⟩ | h1
    · exact hn n h1 (h2.symm.trans z)
    · rw [z, h] at h1; cases h1
  old := fun n hn => by
    rcases b.old n hn with ⟨h1, h2⟩ | h1
    · rw [h2]
      exact a.old n h1
    · cases q : H (g''.r n) with
      | none => exact Or.inr rfl
      | some o =>
        obtain ⟨o', h2⟩ := a.trk _ o q
        rw [h1] at h2; cases h2
  rho := fun n h => (b.rho n (Nat.lt_of_lt_of_le h a.len)).trans (a.rho n h)
  len := Nat.le_trans a.len b.len
  fr := fun x h => b.fr x (a.fr x h)
  tt := b.tt.trans a.tt
  trk := fun x o h => by
    obtain ⟨o', h'⟩ := a.trk x o h
    exact b.trk x o' h'
  nf := fun x h => by
    rcases b.nf x h with h | h | ⟨n, hn, rfl⟩
    · exact a.nf x h
    · cases q : H x with
      | none => exact Or.inr (Or.inl rfl)
      | some o =>
        obtain ⟨o', h2⟩ := a.trk x o q
        rw [h] at h2; cases h2
    · rcases a.old n hn with ⟨h1, h2⟩ | h1
      · exact Or.inr (Or.inr ⟨n, h1, h2.symm⟩)
      · exact Or.inr (Or.inl h1)

/-! ### slots -/
def RO (X : Kx) (H : Hp) (g : G) (L : Nat) : Option PV → Option V → Prop
  | some p, x => ∃ v, x = some v ∧ RV X H g L p v
  | none, _ => True
structure RG (X : Kx) (H : Hp) (g : G) (L : Nat) (Γ : Gam) (σ : L2.St) : Prop where
  len : Γ.length = σ.length
  at_ : ∀ (i : Nat) (p : PV), Γ[i]? = some (some p) → ∃ v, σ[i]? = some (some v) ∧ RV X H g L p v
theorem RG.up {Γ : Gam} {σ : L2.St} (rel : Rel X H g S) (e : Ext X H g S H' g' S') (h : RG X H g S.length Γ σ) : RG X H' g' S'.length Γ σ :=
  ⟨h.len, fun i p q => by
    obtain ⟨v, h1, h2⟩ := h.at_ i p q
    exact ⟨v, h1, RV.up rel e p v h2⟩⟩
theorem RG.set {Γ : Gam} {σ : L2.St} {L : Nat} {i : Nat} {p : PV} {v : V} (h : RG X H g L Γ σ) (r : RV X H g L p v) : RG X H g L (Γ.set i (some p)) (σ.set i (some v)) := by
  refine ⟨by rw [List.length_set, List.length_set]; exact h.len, fun j q e => ?_⟩
  by_cases hij : i = j
  · subst hij
    rw [List.getElem?_set] at e ⊢
    rw [if_pos rfl] at e ⊢
    by_cases hl : i < Γ.length
    · rw [if_pos hl] at e
      rw [if_pos (h.len ▸ hl)]
      cases e
      exact ⟨v, rfl, r⟩
    · rw [if_neg hl] at e; cases e
  · rw [List.getElem?_set_ne hij] at e ⊢
    exact h.at_ j q e
theorem RG.unset {Γ : Gam} {σ : L2.St} {L : Nat} {i : Nat} (h : RG X H g L Γ σ) : RG X H g L (Γ.set i none) (σ.set i none) := by
  refine ⟨by rw [List.length_set, List.length_set]; exact h.len, fun j q e => ?_⟩
  by_cases hij : i = j
  · subst hij
    rw [List.getElem?_set] at e
    rw [if_pos rfl] at e
    by_cases hl : i < Γ.length
    · rw [if_pos hl] at e; cases e
    · rw [if_neg hl] at e; cases e
  · rw [List.getElem?_set_ne hij] at e ⊢
    exact h.at_ j q e

/-! ### an exception, as plain data -/
def RX (X : Kx) (H : Hp) (g : G) (L : Nat) (c : Str) (fs : List (Str × PV)) (cls : Value) (d : Option Addr) : Prop :=
  X.mg c = some cls ∧ ((fs = [] ∧ d = none) ∨ ∃ dx vs, d = some dx ∧ H dx = some (.xd ((fs.map (·.1)).zip vs)) ∧ RVs X H g L (fs.map (·.2)) vs)

/-! ### what a result is worth, from (H, g, S) on; σ: the slots at a raise -/
def OKw {α : Type} (X : Kx) (W : WX) (σ : L2.St) (H : Hp) (g : G) (S : Sto) (r : R α) (P : α → Sto → G → Hp → Prop) : Prop := match r with
  | .ok v S' => ∀ g' H', Ext X H g S H' g' S' → P v S' g' H'
  | .ex c fs S' => ∀ g' H' cls d, Ext X H g S H' g' S' → RX X H' g' S'.length c fs cls d → W cls d σ H'
  | .bad => False
theorem OKw.bind {α β : Type} {W : WX} {σ : L2.St} {r : R α} {k : α → Sto → R β} {P : β → Sto → G → Hp → Prop} (h : OKw X W σ H g S (r.bind k) P) :
    OKw X W σ H g S r fun v S1 g1 H1 => OKw X W σ H1 g1 S1 (k v S1) P := by
  cases r with
  | ok v S1 =>
    intro g1 H1 e1
    have h : OKw X W σ H g S (k v S1) P := h
    show OKw X W σ H1 g1 S1 (k v S1) P
    cases q : k v S1 with
    | ok w S2 =>
      rw [q] at h
      exact fun g2 H2 e2 => h g2 H2 (e1.trans e2)
    | ex c fs S2 =>
      rw [q] at h
      exact fun g2 H2 cls d e2 rx => h g2 H2 cls d (e1.trans e2) rx
    | bad => rw [q] at h; exact h
  | ex c fs S1 => exact h
  | bad => exact h
theorem OKw.mono {α : Type} {W : WX} {σ : L2.St} {r : R α} {P P' : α → Sto → G → Hp → Prop} (h : OKw X W σ H g S r P) (hP : ∀ v S' g' H', r = .ok v S' → Ext X H g S H' g' S' → P v S' g' H' → P' v S' g' H') : OKw X W σ H g S r P' := by
  cases r with
  | ok v S1 => exact fun g1 H1 e1 => hP v S1 g1 H1 rfl e1 (h g1 H1 e1)
  | ex c fs S1 => exact h
  | bad => exact h

end
section
variable {X : Cx} {H H' H'' : Hp} {g g' g'' : G} {S S' S'' : Sto}
/-! ### readings by functions -/
abbrev EF := Gam → Sto → R PV
abbrev BF := Gam → Sto → R Bool
abbrev AF := Gam → Sto → R (List PV)
def lift (X : Cx) (W : WX) (t : EF) : TE := fun σ H Q => ∃ g Γ S, Rel X H g S ∧ RG X H g S.length Γ σ ∧ OKw X W σ H g S (t Γ S) fun v S' g' H' => ∀ x, RV X H' g' S'.length v x → Q x H'
def liftB (X : Cx) (W : WX) (t : BF) : TT := fun σ H Q => ∃ g Γ S, Rel X H g S ∧ RG X H g S.length Γ σ ∧ OKw X W σ H g S (t Γ S) fun b _ _ H' => Q b H'
def liftA (X : Cx) (W : WX) (t : AF) : TA := fun σ H Q => ∃ g Γ S, Rel X H g S ∧ RG X H g S.length Γ σ ∧ OKw X W σ H g S (t Γ S) fun vs S' g' H' => ∀ xs, RVs X H' g' S'.length vs xs → Q xs H'
/-- an expression computes t -/
def E (X : Cx) (W : WX) (e : Expr) (t : EF) : Prop := PE X e (lift X W t)
def B (X : Cx) (W : WX) (e : Expr) (t : BF) : Prop := PT X e (liftB X W t)
def A (X : Cx) (W : WX) (es : List Expr) (t : AF) : Prop := PA X es (liftA X W t)
theorem pe_imp {e : Expr} {t t' : TE} (h : PE X e t) (k : ∀ σ H Q, t' σ H Q → t σ H Q) : PE X e t' := ⟨fun pins s σ H Q I q => h.run pins s σ H Q I (k σ H Q q)⟩
theorem pt_imp {e : Expr} {t t' : TT} (h : PT X e t) (k : ∀ σ H Q, t' σ H Q → t σ H Q) : PT X e t' := ⟨fun pins s σ H Q I q => h.run pins s σ H Q I (k σ H Q q)⟩
theorem pa_imp {e : List Expr} {t t' : TA} (h : PA X e t) (k : ∀ σ H Q, t' σ H Q → t σ H Q) : PA X e t' := ⟨fun pos pins s σ H Q I q => h.run pos pins s σ H Q I (k σ H Q q)⟩

/-! names and constants -/
def eV (i : Nat) : EF := fun Γ S => match Γ[i]? with
  | some (some v) => .ok v S
  | _ => .bad
def eC (v : PV) : EF := fun _ S => .ok v S
variable {W : WX}
theorem OKw.ok {α : Type} {W : WX} {σ : L2.St} {v : α} {P : α → Sto → G → Hp → Prop} (rel : Rel X H g S) (h : OKw X W σ H g S (.ok v S) P) : P v S g H := h g H (Ext.refl rel)
theorem E.var {i : Nat} {x : Str} {pos : Pos} (h : PE X (.Name x pos) (tVar i)) : E X W (.Name x pos) (eV i) := pe_imp h fun σ H Q ⟨g, Γ, S, rel, rg, ok⟩ => by
  unfold eV at ok
  split at ok
  · rename_i v e
    obtain ⟨x, h1, h2⟩ := rg.at_ i v e
    exact ⟨x, h1, OKw.ok rel ok x h2⟩
  · exact ok.elim
theorem E.const {e : Expr} {v : V} {p : PV} (h : PE X e (tC v)) (hp : ∀ H g L, RV X H g L p v) : E X W e (eC p) := pe_imp h fun σ H Q ⟨g, Γ, S, rel, rg, ok⟩ => OKw.ok rel ok v (hp H g S.length)
theorem E.int {i : Int} {j pos} : E X W (.Constant (.int i) j pos) (eC (.int i)) := E.const pe_int fun _ _ _ => rfl
theorem E.bl {b : Bool} {j pos} : E X W (.Constant (.bool b) j pos) (eC (.bl b)) := E.const pe_bl fun _ _ _ => rfl
theorem E.non {j pos} : E X W (.Constant .none j pos) (eC .non) := E.const pe_non fun _ _ _ => rfl
theorem E.str {x : Str} {j pos} : E X W (.Constant (.str x) j pos) (eC (.str x)) := E.const pe_str fun _ _ _ => rfl

/-! two-place operations, by values -/
abbrev OF := PV → PV → Sto → Option (PV × Sto)
def R.of {α : Type} : Option (α × Sto) → R α
  | some (v, S) => .ok v S
  | none => .bad
def eOp (f : OF) (a b : EF) : EF := fun Γ S => (a Γ S).bind fun x S1 => (b Γ S1).bind fun y S2 => R.of (f x y S2)
/-- r may be asked where f gives a value -/
def OpF (X : Kx) (r : R2) (f : OF) : Prop := ∀ (H : Hp) (g : G) (S : Sto) (p q : PV) (x y : V) (w : PV) (S' : Sto) (Q : VK), Rel X H g S → RV X H g S.length p x → RV X H g S.length q y → f p q S = some (w, S') →
  (∀ g' H' z, Ext X H g S H' g' S' → RV X H' g' S'.length w z → Q z H') → r x y H Q
theorem lift_op {r : R2} {f : OF} {a b : EF} (hf : OpF X r f) {σ : L2.St} {H : Hp} {Q : VK} (h : lift X W (eOp f a b) σ H Q) : tOp r (lift X W a) (lift X W b) σ H Q := by
  obtain ⟨g, Γ, S, rel, rg, ok⟩ := h
  refine ⟨g, Γ, S, rel, rg, OKw.mono (OKw.bind ok) fun p S1 g1 H1 _ e1 h1 x rx => ?_⟩
  refine ⟨g1, Γ, S1, e1.rel, rg.up rel e1, OKw.mono (OKw.bind h1) fun q S2 g2 H2 _ e2 h2 y ry => ?_⟩
  cases hw : f p q S2 with
  | none => rw [hw] at h2; exact h2.elim
  | some z =>
    obtain ⟨w, S3⟩ := z
    rw [hw] at h2
    exact hf H2 g2 S2 p q x y w S3 Q e2.rel (RV.up e1.rel e2 p x rx) ry hw fun g' H' z e3 rz => h2 g' H' e3 z rz
theorem E.op {op : Operator} {r : R2} {f : OF} {a b : Expr} {ta tb : EF} {pos : Pos} (ho : OpR X (binaryOp op) r) (hf : OpF X r f) (ha : E X W a ta) (hb : E X W b tb) : E X W (.BinOp a op b pos) (eOp f ta tb) :=
  pe_imp (pe_op ho ha hb) fun _ _ _ h => lift_op hf h
end
end Pv

/-! Pv2: objects laid, changed, read; operations by values. -/
namespace Pv
open PySem PySem.Spec PyProof.Rows L2
section
variable {X : Kx} {H H' H'' : Hp} {g g' g'' : G} {S S' S'' : Sto} {W : WX}

theorem Al.lt {n : Nat} (h : Al S n) : n < S.length := by
  obtain ⟨q, e⟩ := h
  exact (List.getElem?_eq_some_iff.mp e).1
theorem Rel.tracked (rel : Rel X H g S) {n : Nat} (h : Al S n) : ∃ o, H (g.r n) = some o := by
  obtain ⟨⟨k, xs⟩, e⟩ := h
  obtain ⟨o, vs, e1, _⟩ := rel.ob n k xs e
  exact ⟨o, e1⟩

/-! ### a new object -/
def newP (m : Bool) (k : Kd) (xs : List PV) (S : Sto) : PV × Sto := if m then (.ref S.length, S ++ [some (k, xs)]) else (.con .own k xs, S)
def G.addF (g : G) (p : Addr) : G := { g with F := fun a => g.F a ∨ a = p }
def G.addR (g : G) (n : Nat) (p : Addr) : G := { g with r := fun i => if i = n then p else g.r i }
theorem up_addF {p : Addr} {o : HO} {L : Nat} (hp : H p = none) : Up H g L (upd H p o) (g.addF p) L :=
  ⟨fun a u h _ => by rw [upd_ne (ne_of_none h hp)]; exact h, fun _ h => Or.inl h, fun _ h => h, fun _ _ => rfl, Nat.le_refl _⟩
theorem up_addR {p : Addr} {o : HO} {L : Nat} (hp : H p = none) : Up H g L (upd H p o) (g.addR L p) (L + 1) :=
  ⟨fun a u h _ => by rw [upd_ne (ne_of_none h hp)]; exact h, fun _ h => h, fun _ h => h, fun n h => if_neg (Nat.ne_of_lt h), Nat.le_succ _⟩
theorem newF_ok {k : Kd} {xs : List PV} {vs : List V} {p : Addr} {o : HO} (rel : Rel X H g S) (hp : H p = none) (ho : HOof X.mg k vs o) (hr : RVs X H g S.length xs vs) :
    Ext X H g S (upd H p o) (g.addF p) S ∧ RV X (upd H p o) (g.addF p) S.length (.con .own k xs) (.ref p) := by
  have hne : ∀ n, Al S n → g.r n ≠ p := fun n hn z => by
    obtain ⟨u, e⟩ := rel.tracked hn
    rw [z, hp] at e; cases e
  refine ⟨⟨⟨fun n k' xs' e => ?_, rel.inj, fun n hn z => ?_, rel.fT, fun a z => ?_⟩, fun a u h _ => by rw [upd_ne (ne_of_none h hp)]; exact h, fun n hn => Or.inl ⟨hn, rfl⟩, fun _ _ => rfl, Nat.le_refl _, fun _ h => Or.inl h, rfl, fun a u h => ⟨u, by rw [upd_ne (ne_of_none h hp)]; exact h⟩, fun a h => h.elim Or.inl fun z => Or.inr (Or.inl (z ▸ hp))⟩, ?_⟩
  · obtain ⟨u, ws, h1, h2, h3, h4⟩ := rel.ob n k' xs' e
    exact ⟨u, ws, by show upd H p o (g.r n) = _; rw [upd_ne (hne n ⟨_, e⟩)]; exact h1, h2, h3, RVs.mono (up_addF hp) _ _ h4⟩
  · rcases z with z | z
    · exact rel.fF n hn z
    · exact hne n hn z
  · by_cases e : a = p
    · exact ⟨o, by rw [e, upd_same]⟩
    · rw [upd_ne e]
      refine rel.tr a ?_
      rcases z with (z | z) | z
      · exact Or.inl z
      · exact absurd z e
      · exact Or.inr z
  · simp only [RV]
    exact ⟨p, vs, rfl, ⟨o, ho, upd_same, fun _ => Or.inr rfl⟩, RVs.mono (up_addF hp) _ _ hr⟩
theorem newM_ok {k : Kd} {xs : List PV} {vs : List V} {p : Addr} {o : HO} (rel : Rel X H g S) (hp : H p = none) (ho : HOof X.mg k vs o) (hk : k ≠ .tup) (hr : RVs X H g S.length xs vs) :
    Ext X H g S (upd H p o) (g.addR S.length p) (S ++ [some (k, xs)]) ∧ RV X (upd H p o) (g.addR S.length p) (S ++ [some (k, xs)]).length (.ref S.length) (.ref p) := by
  have hne : ∀ n, Al S n → g.r n ≠ p := fun n hn z => by
    obtain ⟨u, e⟩ := rel.tracked hn
    rw [z, hp] at e; cases e
  have hlen : (S ++ [some (k, xs)]).length = S.length + 1 := by simp
  have hal : ∀ n, Al (S ++ [some (k, xs)]) n → (Al S n ∧ (g.addR S.length p).r n = g.r n) ∨ (n = S.length ∧ (g.addR S.length p).r n = p) := fun n hn => by
    obtain ⟨q, e⟩ := hn
    by_cases hl : n < S.length
    · rw [List.getElem?_append_left hl] at e
      exact Or.inl ⟨⟨q, e⟩, if_neg (Nat.ne_of_lt hl)⟩
    · have : n = S.length := by
        have := (List.getElem?_eq_some_iff.mp e).1
        rw [hlen] at this
        omega
      exact Or.inr ⟨this, if_pos this⟩
  refine ⟨⟨⟨fun n k' xs' e => ?_, fun n m hn hm e => ?_, fun n hn z => ?_, fun n hn z => ?_, fun a z => ?_⟩, fun a u h _ => by rw [upd_ne (ne_of_none h hp)]; exact h, fun n hn => ?_, fun n hn => if_neg (Nat.ne_of_lt hn), by rw [hlen]; exact Nat.le_succ _, fun _ h => h, rfl, fun a u h => ⟨u, by rw [upd_ne (ne_of_none h hp)]; exact h⟩, fun _ h => Or.inl h⟩, ?_⟩
  · rw [hlen]
    rcases hal n ⟨_, e⟩ with ⟨h1, h2⟩ | ⟨h1, h2⟩
    · rw [List.getElem?_append_left h1.lt] at e
      obtain ⟨u, ws, q1, q2, q3, q4⟩ := rel.ob n k' xs' e
      exact ⟨u, ws, by rw [h2, upd_ne (hne n h1)]; exact q1, q2, q3, RVs.mono (up_addR hp) _ _ q4⟩
    · subst h1
      rw [List.getElem?_append_right (Nat.le_refl _)] at e
      simp only [Nat.sub_self, List.getElem?_cons_zero, Option.some.injEq, Prod.mk.injEq] at e
      obtain ⟨e1, e2⟩ := e
      subst e1 e2
      exact ⟨o, vs, by rw [h2, upd_same], ho, hk, RVs.mono (up_addR hp) _ _ hr⟩
  · rcases hal n hn with ⟨h1, h2⟩ | ⟨h1, h2⟩
    · rcases hal m hm with ⟨h3, h4⟩ | ⟨h3, h4⟩
      · rw [h2, h4] at e
        exact rel.inj n m h1 h3 e
      · rw [h2, h4] at e
        exact absurd e (hne n h1)
    · rcases hal m hm with ⟨h3, h4⟩ | ⟨h3, h4⟩
      · rw [h2, h4] at e
        exact absurd e.symm (hne m h3)
      · exact h1.trans h3.symm
  · have z : g.F ((g.addR S.length p).r n) := z
    rcases hal n hn with ⟨h1, h2⟩ | ⟨h1, h2⟩
    · rw [h2] at z
      exact rel.fF n h1 z
    · rw [h2] at z
      obtain ⟨u, q⟩ := rel.tr p (Or.inl z)
      rw [hp] at q; cases q
  · have z : g.T ((g.addR S.length p).r n) := z
    rcases hal n hn with ⟨h1, h2⟩ | ⟨h1, h2⟩
    · rw [h2] at z
      exact rel.fT n h1 z
    · rw [h2] at z
      obtain ⟨u, q⟩ := rel.tr p (Or.inr z)
      rw [hp] at q; cases q
  · by_cases e : a = p
    · exact ⟨o, by rw [e, upd_same]⟩
    · rw [upd_ne e]
      exact rel.tr a z
  · rcases hal n hn with ⟨h1, h2⟩ | ⟨h1, h2⟩
    · exact Or.inl ⟨h1, h2⟩
    · exact Or.inr (by rw [h2]; exact hp)
  · simp only [RV]
    exact ⟨by rw [hlen]; exact Nat.lt_succ_self _, by show V.ref p = V.ref ((g.addR S.length p).r S.length); rw [show (g.addR S.length p).r S.length = p from if_pos rfl]⟩
theorem new_ok {m : Bool} {k : Kd} {xs : List PV} {vs : List V} {p : Addr} {o : HO} (rel : Rel X H g S) (hp : H p = none) (ho : HOof X.mg k vs o) (hk : k ≠ .tup) (hr : RVs X H g S.length xs vs) :
    ∃ g', Ext X H g S (upd H p o) g' (newP m k xs S).2 ∧ RV X (upd H p o) g' (newP m k xs S).2.length (newP m k xs S).1 (.ref p) := by
  cases m with
  | true => exact ⟨_, newM_ok rel hp ho hk hr⟩
  | false => exact ⟨_, newF_ok rel hp ho hr⟩

/-! ### a changing object gets another content -/
theorem set_ok {n : Nat} {k k' : Kd} {xs xs' : List PV} {vs' : List V} {o' : HO} (rel : Rel X H g S) (hn : S[n]? = some (some (k, xs))) (ho : HOof X.mg k' vs' o') (hk : k' ≠ .tup) (hr : RVs X H g S.length xs' vs') :
    Ext X H g S (upd H (g.r n) o') g (S.set n (some (k', xs'))) := by
  have an : Al S n := ⟨_, hn⟩
  have hlen : (S.set n (some (k', xs'))).length = S.length := List.length_set
  have hal : ∀ i, Al (S.set n (some (k', xs'))) i → Al S i := fun i ⟨q, e⟩ => by
    by_cases z : n = i
    · subst z; exact an
    · rw [List.getElem?_set_ne z] at e; exact ⟨q, e⟩
  have mu := rel.mut an
  have up : Up H g S.length (upd H (g.r n) o') g S.length := ⟨fun a u h z => by
    refine (upd_ne fun e => ?_).trans h
    subst e
    rw [h] at mu
    rcases z mu with z | z
    · exact rel.fF n an z
    · exact rel.fT n an z, fun _ h => h, fun _ h => h, fun _ _ => rfl, Nat.le_refl _⟩
  refine ⟨⟨fun i k2 xs2 e => ?_, fun i j hi hj e => rel.inj i j (hal i hi) (hal j hj) e, fun i hi => rel.fF i (hal i hi), fun i hi => rel.fT i (hal i hi), fun a z => ?_⟩, fun a u h z => ?_, fun i hi => Or.inl ⟨hal i hi, rfl⟩, fun _ _ => rfl, Nat.le_of_eq hlen.symm, fun _ h => h, rfl, fun a u h => ?_, fun _ h => Or.inl h⟩
  · rw [hlen]
    by_cases z : n = i
    · subst z
      rw [List.getElem?_set_self (Al.lt an)] at e
      simp only [Option.some.injEq, Prod.mk.injEq] at e
      obtain ⟨e1, e2⟩ := e
      subst e1 e2
      exact ⟨o', vs', upd_same, ho, hk, RVs.mono up _ _ hr⟩
    · rw [List.getElem?_set_ne z] at e
      obtain ⟨u, ws, q1, q2, q3, q4⟩ := rel.ob i k2 xs2 e
      exact ⟨u, ws, by rw [upd_ne fun q => z (rel.inj i n ⟨_, e⟩ an q).symm]; exact q1, q2, q3, RVs.mono up _ _ q4⟩
  · by_cases e : a = g.r n
    · exact ⟨o', by rw [e, upd_same]⟩
    · rw [upd_ne e]; exact rel.tr a z
  · rw [upd_ne fun e => z n an e.symm]; exact h
  · by_cases e : a = g.r n
    · exact ⟨o', by rw [e, upd_same]⟩
    · exact ⟨u, by rw [upd_ne e]; exact h⟩
/-- from now on it stands for good -/
theorem frz_ok {n : Nat} {k : Kd} {xs : List PV} (rel : Rel X H g S) (hn : S[n]? = some (some (k, xs))) :
    Ext X H g S H (g.addF (g.r n)) (S.set n none) ∧ RV X H (g.addF (g.r n)) (S.set n none).length (.con .own k xs) (.ref (g.r n)) := by
  have an : Al S n := ⟨_, hn⟩
  have hlen : (S.set n none).length = S.length := List.length_set
  have hal : ∀ i, Al (S.set n none) i → Al S i ∧ i ≠ n := fun i ⟨q, e⟩ => by
    by_cases z : n = i
    · subst z; rw [List.getElem?_set_self (Al.lt an)] at e; cases e
    · rw [List.getElem?_set_ne z] at e; exact ⟨⟨q, e⟩, fun h => z h.symm⟩
  have up : Up H g S.length H (g.addF (g.r n)) S.length := ⟨fun a u h _ => h, fun _ h => Or.inl h, fun _ h => h, fun _ _ => rfl, Nat.le_refl _⟩
  refine ⟨⟨⟨fun i k2 xs2 e => ?_, fun i j hi hj e => rel.inj i j (hal i hi).1 (hal j hj).1 e, fun i hi z => ?_, fun i hi => rel.fT i (hal i hi).1, fun a z => ?_⟩, fun a u h _ => h, fun i hi => Or.inl ⟨(hal i hi).1, rfl⟩, fun _ _ => rfl, Nat.le_of_eq hlen.symm, fun _ h => Or.inl h, rfl, fun a u h => ⟨u, h⟩, fun a h => h.elim Or.inl fun z => Or.inr (Or.inr ⟨n, an, z.symm⟩)⟩, ?_⟩
  · rw [hlen]
    have z : n ≠ i := fun z => (hal i ⟨_, e⟩).2 z.symm
    rw [List.getElem?_set_ne z] at e
    obtain ⟨u, ws, q1, q2, q3, q4⟩ := rel.ob i k2 xs2 e
    exact ⟨u, ws, q1, q2, q3, RVs.mono up _ _ q4⟩
  · rcases z with z | z
    · exact rel.fF i (hal i hi).1 z
    · exact (hal i hi).2 (rel.inj i n (hal i hi).1 an z)
  · rcases z with (z | z) | z
    · exact rel.tr a (Or.inl z)
    · subst z; exact rel.tracked an
    · exact rel.tr a (Or.inr z)
  · obtain ⟨u, ws, q1, q2, q3, q4⟩ := rel.ob n k xs hn
    rw [hlen]
    simp only [RV]
    exact ⟨_, ws, rfl, ⟨u, q2, q1, fun _ => Or.inr rfl⟩, RVs.mono up _ _ q4⟩

/-! ### reading -/
def deref (S : Sto) : PV → Option (Kd × List PV)
  | .con _ k xs => some (k, xs)
  | .ref n => S[n]?.join
  | _ => none
/-- what may be read at a -/
def Rdd (X : Kx) (H : Hp) (k : Kd) (vs : List V) (a : Addr) : Prop := (∃ o, HOof X.mg k vs o ∧ Rd H a o) ∨ Wr X.K a k vs
theorem At.rdd {m : Md} {a : Addr} {k : Kd} {vs : List V} (h : At X H g m a k vs) : Rdd X H k vs a := by
  cases m with
  | own => obtain ⟨o, h1, h2, _⟩ := h; exact Or.inl ⟨o, h1, Or.inl h2⟩
  | lent => obtain ⟨o, h1, h2, _⟩ := h; exact Or.inl ⟨o, h1, Or.inl h2⟩
  | out =>
    rcases h with ⟨ob, o, h1, h2⟩ | h
    · exact Or.inl ⟨o, h1, Or.inr ⟨ob, h2⟩⟩
    · exact Or.inr h
theorem join_some {n : Nat} {q : Kd × List PV} (h : S[n]?.join = some q) : S[n]? = some (some q) := by
  cases e : S[n]? with
  | none => rw [e] at h; cases h
  | some o =>
    rw [e] at h
    cases o with
    | none => cases h
    | some z => cases h; rfl
theorem deref_ok {p : PV} {x : V} {k : Kd} {xs : List PV} (rel : Rel X H g S) (rv : RV X H g S.length p x) (h : deref S p = some (k, xs)) : ∃ a vs, x = .ref a ∧ RVs X H g S.length xs vs ∧ Rdd X H k vs a := by
  cases p with
  | con m k' xs' =>
    have h : some (k', xs') = some (k, xs) := h
    cases h
    simp only [RV] at rv
    obtain ⟨a, vs, h1, h2, h3⟩ := rv
    exact ⟨a, vs, h1, h3, h2.rdd⟩
  | ref n =>
    have e := join_some h
    obtain ⟨o, vs, h1, h2, h3, h4⟩ := rel.ob n k xs e
    simp only [RV] at rv
    exact ⟨_, vs, rv.2, h4, Or.inl ⟨o, h2, Or.inl h1⟩⟩
  | non => cases h
  | bl _ => cases h
  | int _ => cases h
  | str _ => cases h
  | fn _ => cases h
  | ty _ => cases h
theorem Rdd.lst {vs : List V} {a : Addr} (h : Rdd X H .lst vs a) : SqL X.K H a vs := by
  rcases h with ⟨o, h1, h2⟩ | h
  · cases h1; exact Or.inl h2
  · exact Or.inr h
theorem Rdd.tup {vs : List V} {a : Addr} (h : Rdd X H .tup vs a) : SqT X.K H a vs := by
  rcases h with ⟨o, h1, h2⟩ | h
  · cases h1; exact Or.inl h2
  · exact Or.inr h
/-- tracked by itself -/
def derefH (S : Sto) : PV → Option (Kd × List PV)
  | .con .own k xs => some (k, xs)
  | .con .lent k xs => some (k, xs)
  | .ref n => S[n]?.join
  | _ => none
theorem derefH_ok {p : PV} {x : V} {k : Kd} {xs : List PV} (rel : Rel X H g S) (rv : RV X H g S.length p x) (h : derefH S p = some (k, xs)) : ∃ a vs o, x = .ref a ∧ RVs X H g S.length xs vs ∧ HOof X.mg k vs o ∧ H a = some o := by
  cases p with
  | con m k' xs' =>
    simp only [RV] at rv
    obtain ⟨a, vs, h1, h2, h3⟩ := rv
    cases m with
    | own => cases h; obtain ⟨o, q1, q2, _⟩ := h2; exact ⟨a, vs, o, h1, h3, q1, q2⟩
    | lent => cases h; obtain ⟨o, q1, q2, _⟩ := h2; exact ⟨a, vs, o, h1, h3, q1, q2⟩
    | out => cases h
  | ref n =>
    have e := join_some h
    obtain ⟨o, vs, h1, h2, h3, h4⟩ := rel.ob n k xs e
    simp only [RV] at rv
    exact ⟨_, vs, o, rv.2, h4, h2, h1⟩
  | non => cases h
  | bl _ => cases h
  | int _ => cases h
  | str _ => cases h
  | fn _ => cases h
  | ty _ => cases h

/-! ### rows of values -/
theorem RVs.len {L : Nat} : ∀ {xs : List PV} {vs : List V}, RVs X H g L xs vs → xs.length = vs.length
  | [], _, h => by simp only [RVs] at h; subst h; rfl
  | x :: xs, _, h => by
    simp only [RVs] at h
    obtain ⟨v, r, rfl, _, h3⟩ := h
    simp only [List.length_cons, RVs.len h3]
theorem RVs.get {L : Nat} : ∀ {xs : List PV} {vs : List V} {i : Nat} {p : PV}, RVs X H g L xs vs → xs[i]? = some p → ∃ v, vs[i]? = some v ∧ RV X H g L p v
  | [], _, _, _, _, e => by simp at e
  | x :: xs, _, i, p, h, e => by
    simp only [RVs] at h
    obtain ⟨v, r, rfl, h2, h3⟩ := h
    cases i with
    | zero => simp at e; subst e; exact ⟨v, rfl, h2⟩
    | succ i =>
      obtain ⟨w, q1, q2⟩ := RVs.get (i := i) (p := p) h3 (by simpa using e)
      exact ⟨w, by simpa using q1, q2⟩
theorem RVs.getv {L : Nat} {xs : List PV} {vs : List V} {i : Nat} {v : V} (h : RVs X H g L xs vs) (e : vs[i]? = some v) : ∃ p, xs[i]? = some p ∧ RV X H g L p v := by
  have hl := h.len
  have hi := (List.getElem?_eq_some_iff.mp e).1
  have e2 : xs[i]? = some (xs[i]'(by omega)) := List.getElem?_eq_getElem _
  obtain ⟨w, q1, q2⟩ := h.get e2
  rw [e] at q1; cases q1
  exact ⟨_, e2, q2⟩
theorem RVs.of_get {L : Nat} : ∀ {xs : List PV} {vs : List V}, xs.length = vs.length → (∀ (i : Nat) (p : PV) (v : V), xs[i]? = some p → vs[i]? = some v → RV X H g L p v) → RVs X H g L xs vs
  | [], vs, hl, _ => by
    simp only [RVs]
    cases vs with
    | nil => rfl
    | cons _ _ => simp at hl
  | x :: xs, vs, hl, h => by
    cases vs with
    | nil => simp at hl
    | cons v r =>
      simp only [RVs]
      exact ⟨v, r, rfl, h 0 x v rfl rfl, RVs.of_get (by simpa using hl) fun i p w e1 e2 => h (i + 1) p w (by simpa using e1) (by simpa using e2)⟩
theorem RVs.append {L : Nat} : ∀ {xs ys : List PV} {vs ws : List V}, RVs X H g L xs vs → RVs X H g L ys ws → RVs X H g L (xs ++ ys) (vs ++ ws)
  | [], ys, vs, ws, h, k => by simp only [RVs] at h; subst h; exact k
  | x :: xs, ys, _, ws, h, k => by
    simp only [RVs] at h
    obtain ⟨v, r, rfl, h2, h3⟩ := h
    simp only [List.cons_append, RVs]
    exact ⟨v, _, rfl, h2, RVs.append h3 k⟩
theorem RVs.nil {L : Nat} : RVs X H g L [] [] := by simp only [RVs]
theorem RVs.cons {L : Nat} {x : PV} {v : V} {xs : List PV} {vs : List V} (h : RV X H g L x v) (k : RVs X H g L xs vs) : RVs X H g L (x :: xs) (v :: vs) := by
  simp only [RVs]; exact ⟨v, vs, rfl, h, k⟩
theorem RVs.set {L : Nat} {xs : List PV} {vs : List V} {i : Nat} {p : PV} {v : V} (h : RVs X H g L xs vs) (k : RV X H g L p v) : RVs X H g L (xs.set i p) (vs.set i v) := by
  refine RVs.of_get (by simp [h.len]) fun j q w e1 e2 => ?_
  by_cases z : i = j
  · subst z
    have l1 := (List.getElem?_eq_some_iff.mp e1).1
    have l2 := (List.getElem?_eq_some_iff.mp e2).1
    rw [List.length_set] at l1 l2
    rw [List.getElem?_set_self l1] at e1
    rw [List.getElem?_set_self l2] at e2
    cases e1; cases e2; exact k
  · rw [List.getElem?_set_ne z] at e1 e2
    obtain ⟨w', q1, q2⟩ := h.get e1
    rw [e2] at q1; cases q1; exact q2
theorem RVs.take {L : Nat} {xs : List PV} {vs : List V} (n : Nat) (h : RVs X H g L xs vs) : RVs X H g L (xs.take n) (vs.take n) := by
  refine RVs.of_get (by simp [h.len]) fun j q w e1 e2 => ?_
  rw [List.getElem?_take] at e1 e2
  split at e1
  · rename_i hlt
    rw [if_pos hlt] at e2
    obtain ⟨w', q1, q2⟩ := h.get e1
    rw [e2] at q1; cases q1; exact q2
  · cases e1
theorem RVs.drop {L : Nat} {xs : List PV} {vs : List V} (n : Nat) (h : RVs X H g L xs vs) : RVs X H g L (xs.drop n) (vs.drop n) := by
  refine RVs.of_get (by simp [h.len]) fun j q w e1 e2 => ?_
  rw [List.getElem?_drop] at e1 e2
  obtain ⟨w', q1, q2⟩ := h.get e1
  rw [e2] at q1; cases q1; exact q2
theorem RVs.ints {L : Nat} : ∀ {ns : List Int} {vs : List V}, RVs X H g L (ns.map PV.int) vs → vs = ns.map V.int
  | [], _, h => by simpa only [List.map_nil, RVs] using h
  | n :: ns, _, h => by
    simp only [List.map_cons, RVs, RV] at h
    obtain ⟨v, r, rfl, rfl, h3⟩ := h
    rw [List.map_cons, RVs.ints h3]
theorem RVs.strs {L : Nat} : ∀ {ns : List Str} {vs : List V}, RVs X H g L (ns.map PV.str) vs → vs = ns.map V.str
  | [], _, h => by simpa only [List.map_nil, RVs] using h
  | n :: ns, _, h => by
    simp only [List.map_cons, RVs, RV] at h
    obtain ⟨v, r, rfl, rfl, h3⟩ := h
    rw [List.map_cons, RVs.strs h3]
theorem RVs.mk_ints {L : Nat} : ∀ (ns : List Int), RVs X H g L (ns.map PV.int) (ns.map V.int)
  | [] => RVs.nil
  | n :: ns => RVs.cons (by simp only [RV]) (RVs.mk_ints ns)
theorem RVs.mk_strs {L : Nat} : ∀ (ns : List Str), RVs X H g L (ns.map PV.str) (ns.map V.str)
  | [] => RVs.nil
  | n :: ns => RVs.cons (by simp only [RV]) (RVs.mk_strs ns)
end
end Pv

/-! Pv3: operators, comparisons, tests. -/
namespace Pv
open PySem PySem.Spec PyProof.Rows L2
section
variable {X : Cx} {Y : Kx} {H H' H'' : Hp} {g g' g'' : G} {S S' S'' : Sto} {W : WX}

theorem OpR.or {f : Value → Value → Sem Value} {r r' : R2} (h : OpR X f r) (h' : OpR X f r') : OpR X f (fun x y H Q => r x y H Q ∨ r' x y H Q) := by
  intro pins s σ H x y v u Q I rx ry q
  rcases q with q | q
  · exact h pins s σ H x y v u Q I rx ry q
  · exact h' pins s σ H x y v u Q I rx ry q
theorem RV.int_inv {L : Nat} {i : Int} {x : V} (h : RV Y H g L (.int i) x) : x = .int i := by simpa only [RV] using h
theorem RV.str_inv {L : Nat} {i : Str} {x : V} (h : RV Y H g L (.str i) x) : x = .str i := by simpa only [RV] using h
theorem RV.bl_inv {L : Nat} {i : Bool} {x : V} (h : RV Y H g L (.bl i) x) : x = .bl i := by simpa only [RV] using h
theorem RV.non_inv {L : Nat} {x : V} (h : RV Y H g L .non x) : x = .non := by simpa only [RV] using h
theorem RV.int {L : Nat} {i : Int} : RV Y H g L (.int i) (.int i) := by simp only [RV]
theorem RV.str {L : Nat} {i : Str} : RV Y H g L (.str i) (.str i) := by simp only [RV]
theorem RV.bl {L : Nat} {i : Bool} : RV Y H g L (.bl i) (.bl i) := by simp only [RV]
theorem RV.non {L : Nat} : RV Y H g L .non .non := by simp only [RV]

/-! ### arithmetic -/
def iOp (C : Int → Int → Prop) [∀ i j, Decidable (C i j)] (f : Int → Int → PV) : OF := fun p q S => match p, q with
  | .int i, .int j => if C i j then some (f i j, S) else none
  | _, _ => none
def iOp0 (f : Int → Int → PV) : OF := fun p q S => match p, q with
  | .int i, .int j => some (f i j, S)
  | _, _ => none
theorem iOp0_inv {f : Int → Int → PV} {p q : PV} {w : PV} (h : iOp0 f p q S = some (w, S')) : ∃ i j, p = .int i ∧ q = .int j ∧ w = f i j ∧ S' = S := by
  unfold iOp0 at h
  split at h
  · simp only [Option.some.injEq, Prod.mk.injEq] at h; exact ⟨_, _, rfl, rfl, h.1.symm, h.2.symm⟩
  · cases h
theorem iOp_inv {C : Int → Int → Prop} [∀ i j, Decidable (C i j)] {f : Int → Int → PV} {p q : PV} {w : PV} (h : iOp C f p q S = some (w, S')) : ∃ i j, p = .int i ∧ q = .int j ∧ C i j ∧ w = f i j ∧ S' = S := by
  unfold iOp at h
  split at h
  · split at h
    · simp only [Option.some.injEq, Prod.mk.injEq] at h; exact ⟨_, _, rfl, rfl, by assumption, h.1.symm, h.2.symm⟩
    · cases h
  · cases h
theorem opf_I0 {f : Int → Int → Int} : OpF X (rI0 fun i j => .int (f i j)) (iOp0 fun i j => .int (f i j)) := by
  intro H g S p q x y w S' Q rel rx ry h k
  obtain ⟨i, j, rfl, rfl, rfl, rfl⟩ := iOp0_inv h
  exact ⟨i, j, rx.int_inv, ry.int_inv, k g H _ (Ext.refl rel) RV.int⟩
theorem opf_B0 {f : Int → Int → Bool} : OpF X (rI0 fun i j => .bl (f i j)) (iOp0 fun i j => .bl (f i j)) := by
  intro H g S p q x y w S' Q rel rx ry h k
  obtain ⟨i, j, rfl, rfl, rfl, rfl⟩ := iOp0_inv h
  exact ⟨i, j, rx.int_inv, ry.int_inv, k g H _ (Ext.refl rel) RV.bl⟩
theorem opf_I {C : Int → Int → Prop} [∀ i j, Decidable (C i j)] {f : Int → Int → Int} : OpF X (rI C fun i j => .int (f i j)) (iOp C fun i j => .int (f i j)) := by
  intro H g S p q x y w S' Q rel rx ry h k
  obtain ⟨i, j, rfl, rfl, c, rfl, rfl⟩ := iOp_inv h
  exact ⟨i, j, rx.int_inv, ry.int_inv, c, k g H _ (Ext.refl rel) RV.int⟩
instance (i j : Int) : Decidable (CDiv i j) := inferInstanceAs (Decidable (_ ∧ _))
instance (i j : Int) : Decidable (CPow i j) := inferInstanceAs (Decidable (_ ∧ _ ∧ _))
instance (i j : Int) : Decidable (CMul i j) := inferInstanceAs (Decidable (_ ∨ _))
abbrev subF : OF := iOp0 fun i j => .int (i - j)
abbrev fdivF : OF := iOp CDiv fun i j => .int (i / j)
abbrev modF : OF := iOp (fun _ j => 0 < j) fun i j => .int (i % j)
abbrev powF : OF := iOp CPow fun i j => .int (i ^ j.toNat)
abbrev ltF : OF := iOp0 fun i j => .bl (decide (i < j))
abbrev leF : OF := iOp0 fun i j => .bl (decide (i ≤ j))
abbrev gtF : OF := iOp0 fun i j => .bl (decide (j < i))
abbrev geF : OF := iOp0 fun i j => .bl (decide (j ≤ i))
def mulF (m : Bool) : OF := fun p q S => match p, q with
  | .int i, .int j => if CMul i j then some (.int (i * j), S) else none
  | p, .int k => match derefH S p with
    | some (.lst, xs) => if -(2 ^ 63) ≤ k ∧ k < 2 ^ 63 ∧ xs.length * k.toNat ≤ sizeLine then some (newP m .lst (List.replicate k.toNat xs).flatten S) else none
    | _ => none
  | _, _ => none
theorem RVs.rep {L : Nat} {xs : List PV} {vs : List V} (h : RVs Y H g L xs vs) : ∀ n, RVs Y H g L (List.replicate n xs).flatten (List.replicate n vs).flatten
  | 0 => RVs.nil
  | n + 1 => by
    rw [List.replicate_succ, List.replicate_succ, List.flatten_cons, List.flatten_cons]
    exact h.append (h.rep n)
theorem opf_mul {m : Bool} : OpF X (fun x y H Q => rI CMul (fun i j => .int (i * j)) x y H Q ∨ rRep x y H Q) (mulF m) := by
  intro H g S p q x y w S' Q rel rx ry h k
  unfold mulF at h
  split at h
  · split at h
    · simp only [Option.some.injEq, Prod.mk.injEq] at h
      obtain ⟨rfl, rfl⟩ := h
      exact Or.inl ⟨_, _, rx.int_inv, ry.int_inv, by assumption, k g H _ (Ext.refl rel) RV.int⟩
    · cases h
  · split at h
    · rename_i xs e
      split at h
      · rename_i c
        obtain ⟨a, vs, o, rfl, h2, h3, h4⟩ := derefH_ok rel rx e
        cases h3
        refine Or.inr ⟨a, _, vs, rfl, ry.int_inv, h4, c.1, c.2.1, by rw [← h2.len]; exact c.2.2, fun l hl => ?_⟩
        obtain ⟨g', e1, e2⟩ := new_ok (m := m) rel hl (k := .lst) (o := .lst _) rfl (by decide) (h2.rep _)
        simp only [Option.some.injEq] at h
        rw [h] at e1 e2
        exact k g' _ _ e1 e2
      · cases h
    · cases h
  · cases h
theorem or_mul : OpR X (binaryOp .Mult) (fun x y H Q => rI CMul (fun i j => .int (i * j)) x y H Q ∨ rRep x y H Q) := OpR.or op_mul op_rep
def addF (m : Bool) : OF := fun p q S => match p, q with
  | .int i, .int j => some (.int (i + j), S)
  | .str a, .str b => if a.length + b.length ≤ sizeLine then some (.str (a ++ b), S) else none
  | p, q => match derefH S p, derefH S q with
    | some (.lst, xs), some (.lst, ys) => if xs.length + ys.length ≤ sizeLine then some (newP m .lst (xs ++ ys) S) else none
    | some (.tup, xs), some (.tup, ys) => if xs ≠ [] ∧ xs.length + ys.length ≤ sizeLine then some (.con .own .tup (xs ++ ys), S) else none
    | _, _ => none
theorem opf_add {m : Bool} : OpF X (fun x y H Q => (rI0 (fun i j => .int (i + j)) x y H Q ∨ ∃ i j, x = .str i ∧ y = .str j ∧ i.length + j.length ≤ sizeLine ∧ Q (.str (i ++ j)) H) ∨ (rCat x y H Q ∨ rCatT X.K x y H Q)) (addF m) := by
  intro H g S p q x y w S' Q rel rx ry h k
  unfold addF at h
  split at h
  · simp only [Option.some.injEq, Prod.mk.injEq] at h
    obtain ⟨rfl, rfl⟩ := h
    exact Or.inl (Or.inl ⟨_, _, rx.int_inv, ry.int_inv, k g H _ (Ext.refl rel) RV.int⟩)
  · split at h
    · simp only [Option.some.injEq, Prod.mk.injEq] at h
      obtain ⟨rfl, rfl⟩ := h
      exact Or.inl (Or.inr ⟨_, _, rx.str_inv, ry.str_inv, by assumption, k g H _ (Ext.refl rel) RV.str⟩)
    · cases h
  · split at h
    · rename_i xs ys e1 e2
      split at h
      · rename_i c
        obtain ⟨a, vs, o, rfl, h2, h3, h4⟩ := derefH_ok rel rx e1
        obtain ⟨b, ws, o', rfl, q2, q3, q4⟩ := derefH_ok rel ry e2
        cases h3
        cases q3
        refine Or.inr (Or.inl ⟨a, b, vs, ws, rfl, rfl, h4, q4, by rw [← h2.len, ← q2.len]; exact c, fun l hl => ?_⟩)
        obtain ⟨g', z1, z2⟩ := new_ok (m := m) rel hl (k := .lst) (o := .lst _) rfl (by decide) (h2.append q2)
        simp only [Option.some.injEq] at h
        rw [h] at z1 z2
        exact k g' _ _ z1 z2
      · cases h
    · rename_i xs ys e1 e2
      split at h
      · rename_i c
        obtain ⟨a, vs, o, rfl, h2, h3, h4⟩ := derefH_ok rel rx e1
        obtain ⟨b, ws, o', rfl, q2, q3, q4⟩ := derefH_ok rel ry e2
        cases h3
        cases q3
        simp only [Option.some.injEq, Prod.mk.injEq] at h
        obtain ⟨rfl, rfl⟩ := h
        refine Or.inr (Or.inr ⟨a, b, vs, ws, rfl, rfl, SqT.of h4, SqT.of q4, fun z => c.1 ?_, by rw [← h2.len, ← q2.len]; exact c.2, fun z => ?_, fun _ l hl => ?_⟩)
        · have := h2.len
          rw [z] at this
          exact List.eq_nil_of_length_eq_zero this
        · have : ys = [] := List.eq_nil_of_length_eq_zero (by rw [q2.len, z]; rfl)
          subst this z
          refine k g H _ (Ext.refl rel) ?_
          simp only [RV, List.append_nil]
          exact ⟨a, vs, rfl, ⟨_, rfl, h4, fun z => False.elim z⟩, h2⟩
        · obtain ⟨z1, z2⟩ := newF_ok rel hl (k := .tup) (o := .tup _) rfl (h2.append q2)
          exact k _ _ _ z1 z2
      · cases h
    · cases h
theorem or_add : OpR X (binaryOp .Add) (fun x y H Q => (rI0 (fun i j => .int (i + j)) x y H Q ∨ ∃ i j, x = .str i ∧ y = .str j ∧ i.length + j.length ≤ sizeLine ∧ Q (.str (i ++ j)) H) ∨ (rCat x y H Q ∨ rCatT X.K x y H Q)) :=
  OpR.or (OpR.or op_add op_add_str) (OpR.or op_cat op_catT)
section
variable {a b c : Expr} {ta tb tc : EF} {pos : Pos}
theorem E.add (m : Bool) (ha : E X W a ta) (hb : E X W b tb) : E X W (.BinOp a .Add b pos) (eOp (addF m) ta tb) := E.op or_add opf_add ha hb
theorem E.mul (m : Bool) (ha : E X W a ta) (hb : E X W b tb) : E X W (.BinOp a .Mult b pos) (eOp (mulF m) ta tb) := E.op or_mul opf_mul ha hb
theorem E.sub (ha : E X W a ta) (hb : E X W b tb) : E X W (.BinOp a .Sub b pos) (eOp subF ta tb) := E.op op_sub opf_I0 ha hb
theorem E.fdiv (ha : E X W a ta) (hb : E X W b tb) : E X W (.BinOp a .FloorDiv b pos) (eOp fdivF ta tb) := E.op op_fdiv opf_I ha hb
theorem E.mod (ha : E X W a ta) (hb : E X W b tb) : E X W (.BinOp a .Mod b pos) (eOp modF ta tb) := E.op op_mod opf_I ha hb
theorem E.pow (ha : E X W a ta) (hb : E X W b tb) : E X W (.BinOp a .Pow b pos) (eOp powF ta tb) := E.op op_pow opf_I ha hb
end

/-! ### data at any depth -/
def toPD : Nat → Sto → PV → Option PyData
  | 0, _, _ => none
  | n + 1, S, p => match p with
    | .non => some .none
    | .bl b => some (.bool b)
    | .int i => some (.int i)
    | .str s => some (.str s)
    | p => match deref S p with
      | some (.lst, xs) => (xs.mapM (toPD n S)).map .list
      | some (.tup, xs) => (xs.mapM (toPD n S)).map .tuple
      | _ => none
theorem dp_all {f : PV → Option PyData} (rel : Rel X H g S) (hf : ∀ p x d, RV X H g S.length p x → f p = some d → Dp X.K H x d) : ∀ {xs : List PV} {vs : List V} {ds : List PyData}, RVs X H g S.length xs vs → xs.mapM f = some ds → DpAll X.K H vs ds
  | [], vs, ds, h, e => by
    simp only [RVs] at h
    subst h
    simp at e
    subst e
    exact .nil
  | x :: xs, vs, ds, h, e => by
    simp only [RVs] at h
    obtain ⟨v, r, rfl, h2, h3⟩ := h
    simp only [List.mapM_cons, Option.bind_eq_bind, Option.bind_eq_some_iff, Option.pure_def, Option.some.injEq] at e
    obtain ⟨d, e1, es, e2, rfl⟩ := e
    exact .cons (hf x v d h2 e1) (dp_all rel hf h3 e2)
theorem toPD_ok (rel : Rel X H g S) : ∀ (n : Nat) (p : PV) (x : V) (d : PyData), RV X H g S.length p x → toPD n S p = some d → Dp X.K H x d
  | 0, _, _, _, _, e => by simp [toPD] at e
  | n + 1, p, x, d, h, e => by
    simp only [toPD] at e
    split at e
    · cases e; rw [h.non_inv]; exact .non
    · cases e; rw [h.bl_inv]; exact .bl _
    · cases e; rw [h.int_inv]; exact .int _
    · cases e; rw [h.str_inv]; exact .str _
    · split at e
      · rename_i xs hd
        obtain ⟨a, vs, rfl, h2, h3⟩ := deref_ok rel h hd
        simp only [Option.map_eq_some_iff] at e
        obtain ⟨ds, e1, rfl⟩ := e
        exact .lst h3.lst (dp_all rel (toPD_ok rel n) h2 e1)
      · rename_i xs hd
        obtain ⟨a, vs, rfl, h2, h3⟩ := deref_ok rel h hd
        simp only [Option.map_eq_some_iff] at e
        obtain ⟨ds, e1, rfl⟩ := e
        exact .tup h3.tup (dp_all rel (toPD_ok rel n) h2 e1)
      · cases e
/-- == -/
def eqB (S : Sto) (p q : PV) : Option Bool := match p, q with
  | .int i, .int j => some (decide (i = j))
  | .str i, .str j => some (decide (i = j))
  | .non, .non => some true
  | .bl i, .bl j => some (decide (i = j))
  | p, q => match toPD 9 S p, toPD 9 S q with
    | some d, some e => some (PyData.eqv d e)
    | _, _ => none
/-- data as toPD gives it -/
def Pl (d : PyData) : Prop := d.plain = true ∧ d.depth ≤ 9
theorem plain_all : ∀ {n : Nat} {f : PV → Option PyData}, (∀ p d, f p = some d → d.plain = true ∧ d.depth ≤ n) → ∀ {xs : List PV} {ds : List PyData}, xs.mapM f = some ds → PyData.plainAll ds = true ∧ PyData.depthAll ds ≤ n
  | n, f, hf, [], ds, e => by
    simp at e
    subst e
    exact ⟨rfl, Nat.zero_le _⟩
  | n, f, hf, x :: xs, ds, e => by
    simp only [List.mapM_cons, Option.bind_eq_bind, Option.bind_eq_some_iff, Option.pure_def, Option.some.injEq] at e
    obtain ⟨d, e1, es, e2, rfl⟩ := e
    obtain ⟨h1, h2⟩ := hf x d e1
    obtain ⟨h3, h4⟩ := plain_all hf e2
    exact ⟨by simp only [PyData.plainAll, h1, h3, Bool.and_self], by simp only [PyData.depthAll]; omega⟩
theorem toPD_plain : ∀ (n : Nat) (p : PV) (d : PyData), toPD n S p = some d → d.plain = true ∧ d.depth ≤ n
  | 0, _, _, e => by simp [toPD] at e
  | n + 1, p, d, e => by
    simp only [toPD] at e
    split at e
    · cases e; exact ⟨rfl, Nat.zero_le _⟩
    · cases e; exact ⟨rfl, Nat.zero_le _⟩
    · cases e; exact ⟨rfl, Nat.zero_le _⟩
    · cases e; exact ⟨rfl, Nat.zero_le _⟩
    · split at e
      · simp only [Option.map_eq_some_iff] at e
        obtain ⟨ds, e1, rfl⟩ := e
        obtain ⟨h1, h2⟩ := plain_all (toPD_plain n) e1
        exact ⟨h1, by simp only [PyData.depth]; omega⟩
      · simp only [Option.map_eq_some_iff] at e
        obtain ⟨ds, e1, rfl⟩ := e
        obtain ⟨h1, h2⟩ := plain_all (toPD_plain n) e1
        exact ⟨h1, by simp only [PyData.depth]; omega⟩
      · cases e
def rEqP (K : PySem.W.Frag) : R2 := fun x y H Q => ∃ d e, Dp K H x d ∧ Dp K H y e ∧ Pl d ∧ Pl e ∧ Q (.bl (PyData.eqv d e)) H
def rNeP (K : PySem.W.Frag) : R2 := fun x y H Q => ∃ d e, Dp K H x d ∧ Dp K H y e ∧ Pl d ∧ Pl e ∧ Q (.bl (!PyData.eqv d e)) H
theorem op_eqP (hu : X.A.units + 64 < cLine) : OpR X (compareOp .Eq) (rEqP X.K) := by
  intro pins s σ H x y v u Q I rx ry h
  obtain ⟨d, e, hd, he, sd, se, q⟩ := h
  obtain ⟨as, r1⟩ := Dp.reads I d x v hd rx
  obtain ⟨bs, r2⟩ := Dp.reads I e y u he ry
  have := sd.2
  exact SeqAt.eq_plain r1 r2 sd.1 se.1 (by omega) ⟨.bl _, H, I, rfl, q⟩
theorem op_neP (hu : X.A.units + 64 < cLine) : OpR X (compareOp .NotEq) (rNeP X.K) := by
  intro pins s σ H x y v u Q I rx ry h
  obtain ⟨d, e, hd, he, sd, se, q⟩ := h
  obtain ⟨as, r1⟩ := Dp.reads I d x v hd rx
  obtain ⟨bs, r2⟩ := Dp.reads I e y u he ry
  have := sd.2
  exact SeqAt.ne_plain r1 r2 sd.1 se.1 (by omega) ⟨.bl _, H, I, rfl, q⟩
def eqF : OF := fun p q S => (eqB S p q).map fun b => (.bl b, S)
def neF : OF := fun p q S => (eqB S p q).map fun b => (.bl (!b), S)
theorem eqB_ok {r : R2} {fb : Bool → Bool} (hs : ∀ x y H Q, scal x y = true → Q (.bl (fb (decide (x = y)))) H → r x y H Q) (hd : ∀ x y d e H Q, Dp X.K H x d → Dp X.K H y e → Pl d → Pl e → Q (.bl (fb (PyData.eqv d e))) H → r x y H Q) :
    OpF X r (fun p q S => (eqB S p q).map fun b => (.bl (fb b), S)) := by
  intro H g S p q x y w S' Q rel rx ry h k
  simp only [Option.map_eq_some_iff, Prod.mk.injEq] at h
  obtain ⟨b, h, rfl, rfl⟩ := h
  have q0 := k g H _ (Ext.refl rel) RV.bl
  unfold eqB at h
  split at h
  · cases h
    rw [rx.int_inv, ry.int_inv]
    refine hs _ _ _ _ rfl ?_
    rw [dec_int, Bool.beq_eq_decide_eq]
    exact q0
  · cases h
    rw [rx.str_inv, ry.str_inv]
    refine hs _ _ _ _ rfl ?_
    rw [dec_str, Bool.beq_eq_decide_eq]
    exact q0
  · cases h
    rw [rx.non_inv, ry.non_inv]
    refine hs _ _ _ _ rfl ?_
    rw [decide_eq_true rfl]
    exact q0
  · cases h
    rw [rx.bl_inv, ry.bl_inv]
    refine hs _ _ _ _ rfl ?_
    rw [dec_bl, Bool.beq_eq_decide_eq]
    exact q0
  · split at h
    · rename_i d e hd1 he1
      cases h
      exact hd _ _ d e _ _ (toPD_ok rel 9 _ _ _ rx hd1) (toPD_ok rel 9 _ _ _ ry he1) (toPD_plain 9 _ _ hd1) (toPD_plain 9 _ _ he1) q0
    · cases h
theorem opf_eq : OpF X (fun x y H Q => rEq x y H Q ∨ rEqP X.K x y H Q) eqF :=
  eqB_ok (fb := fun b => b) (fun x y H Q h q => Or.inl ⟨h, q⟩) fun x y d e H Q h1 h2 h3 h4 q => Or.inr ⟨d, e, h1, h2, h3, h4, q⟩
theorem opf_ne : OpF X (fun x y H Q => rNe x y H Q ∨ rNeP X.K x y H Q) neF :=
  eqB_ok (fb := fun b => !b) (fun x y H Q h q => Or.inl ⟨h, q⟩) fun x y d e H Q h1 h2 h3 h4 q => Or.inr ⟨d, e, h1, h2, h3, h4, q⟩
theorem or_eq (hu : X.A.units + 64 < cLine) : OpR X (compareOp .Eq) (fun x y H Q => rEq x y H Q ∨ rEqP X.K x y H Q) := OpR.or op_eq (op_eqP hu)
theorem or_ne (hu : X.A.units + 64 < cLine) : OpR X (compareOp .NotEq) (fun x y H Q => rNe x y H Q ∨ rNeP X.K x y H Q) := OpR.or op_ne (op_neP hu)

/-! ### in -/
def flatP : PV → Bool
  | .non => true
  | .bl _ => true
  | .int _ => true
  | .str _ => true
  | _ => false
def eqP : PV → PV → Bool
  | .non, .non => true
  | .bl a, .bl b => a == b
  | .bl a, .int b => (if a then 1 else 0) == b
  | .int a, .bl b => a == (if b then 1 else 0)
  | .int a, .int b => a == b
  | .str a, .str b => a == b
  | _, _ => false
theorem flat_rv {L : Nat} {p : PV} {x : V} (h : RV X H g L p x) (f : flatP p = true) : flatV x = true := by
  cases p with
  | non => rw [h.non_inv] <;> rfl
  | bl _ => rw [h.bl_inv] <;> rfl
  | int _ => rw [h.int_inv] <;> rfl
  | str _ => rw [h.str_inv] <;> rfl
  | con _ _ _ => cases f
  | ref _ => cases f
  | fn _ => cases f
  | ty _ => cases f
theorem eqP_rv {L : Nat} {p q : PV} {x y : V} (h : RV X H g L p x) (h' : RV X H g L q y) (f : flatP p = true) (f' : flatP q = true) : L2.eqV x y = eqP p q := by
  cases p <;> cases q <;> first
    | (simp [flatP] at f; done)
    | (simp [flatP] at f'; done)
    | (simp only [RV] at h h'; subst h h'; simp only [L2.eqV, eqP])
theorem inP_rv {L : Nat} {p : PV} {x : V} (h : RV X H g L p x) (f : flatP p = true) : ∀ {xs : List PV} {vs : List V}, RVs X H g L xs vs → xs.all flatP = true → vs.all flatV = true ∧ inV x vs = xs.any (fun y => eqP y p)
  | [], vs, k, _ => by
    simp only [RVs] at k
    subst k
    exact ⟨rfl, rfl⟩
  | q :: xs, vs, k, fs => by
    simp only [RVs] at k
    obtain ⟨v, r, rfl, k2, k3⟩ := k
    simp only [List.all_cons, Bool.and_eq_true] at fs
    obtain ⟨i1, i2⟩ := inP_rv h f k3 fs.2
    refine ⟨by simp only [List.all_cons, Bool.and_eq_true]; exact ⟨flat_rv k2 fs.1, i1⟩, ?_⟩
    unfold inV at i2 ⊢
    rw [List.any_cons, List.any_cons, i2, eqP_rv k2 h fs.1 f]
def inB (S : Sto) (p q : PV) : Option Bool := match p, q with
  | .str c, .str z => match c.cps.toList with
    | [n] => some (decide (n ∈ z.cps.toList))
    | _ => none
  | p, q => match deref S q with
    | some (k, ys) => if (k = .lst ∨ k = .tup) ∧ flatP p = true ∧ ys.all flatP = true then some (ys.any fun y => eqP y p)
      else if k = .lst ∨ k = .tup then match toPD 9 S p, ys.mapM (toPD 8 S) with
        | some d, some ds => some (ds.any fun z => PyData.eqv z d)
        | _, _ => none
      else none
    | _ => none
def inF : OF := fun p q S => (inB S p q).map fun b => (.bl b, S)
def ninF : OF := fun p q S => (inB S p q).map fun b => (.bl (!b), S)
theorem one_sign {c : Str} {n : Nat} (h : c.cps.toList = [n]) : c = ⟨#[n]⟩ := by
  obtain ⟨a⟩ := c
  have : a = #[n] := by
    have h : a.toList = [n] := h
    rw [← Array.toArray_toList (xs := a), h]
  rw [this]
theorem inB_ok {r : R2} {fb : Bool → Bool} (hs : ∀ c z H Q, Q (.bl (fb (decide (c ∈ z.cps.toList)))) H → r (.str ⟨#[c]⟩) (.str z) H Q)
    (hf : ∀ x p ys H Q, (SqL X.K H p ys ∨ SqT X.K H p ys) → flatV x = true → ys.all flatV = true → Q (.bl (fb (inV x ys))) H → r x (.ref p) H Q)
    (hd : ∀ x y d ds H Q, Dp X.K H x d → (Dp X.K H y (.list ds) ∨ Dp X.K H y (.tuple ds)) → Pl d → PyData.plainAll ds = true → Q (.bl (fb (ds.any fun z => PyData.eqv z d))) H → r x y H Q) :
    OpF X r (fun p q S => (inB S p q).map fun b => (.bl (fb b), S)) := by
  intro H g S p q x y w S' Q rel rx ry h k
  simp only [Option.map_eq_some_iff, Prod.mk.injEq] at h
  obtain ⟨b, h, rfl, rfl⟩ := h
  have q0 := k g H _ (Ext.refl rel) RV.bl
  unfold inB at h
  split at h
  · split at h
    · rename_i n e
      cases h
      rw [rx.str_inv, ry.str_inv, one_sign e]
      exact hs _ _ _ _ q0
    · cases h
  · split at h
    · rename_i k ys e
      obtain ⟨a, vs, rfl, h2, h3⟩ := deref_ok rel ry e
      split at h
      · rename_i c
        cases h
        obtain ⟨i1, i2⟩ := inP_rv rx c.2.1 h2 c.2.2
        refine hf _ a vs _ _ ?_ (flat_rv rx c.2.1) i1 (by rw [i2]; exact q0)
        rcases c.1 with rfl | rfl
        · exact Or.inl h3.lst
        · exact Or.inr h3.tup
      · split at h
        · rename_i hk
          split at h
          · rename_i d ds e1 e2
            cases h
            refine hd _ _ d ds _ _ (toPD_ok rel 9 _ _ _ rx e1) ?_ (toPD_plain 9 _ _ e1) (plain_all (toPD_plain 8) e2).1 q0
            rcases hk with rfl | rfl
            · exact Or.inl (.lst h3.lst (dp_all rel (toPD_ok rel 8) h2 e2))
            · exact Or.inr (.tup h3.tup (dp_all rel (toPD_ok rel 8) h2 e2))
          · cases h
        · cases h
    · cases h
end
end Pv

/-! Pv4: expressions. -/
namespace Pv
open PySem PySem.Spec PyProof.Rows L2
section
variable {X : Cx} {H H' H'' : Hp} {g g' g'' : G} {S S' S'' : Sto} {W : WX} {a b c e o : Expr} {es rest : List Expr} {ta tb tc to : EF} {pos : Pos}

/-! ### comparisons -/
theorem E.cmp {op : CmpOp} {r : R2} {f : OF} (ho : OpR X (compareOp op) r) (hf : OpF X r f) (ha : E X W a ta) (hb : E X W b tb) (hm : behindInMarks op b = false) : E X W (.Compare a [op] [b] pos) (eOp f ta tb) :=
  pe_imp (pe_cmpR ho ha hb hm) fun _ _ _ h => lift_op hf h
theorem E.lt (ha : E X W a ta) (hb : E X W b tb) : E X W (.Compare a [.Lt] [b] pos) (eOp ltF ta tb) := E.cmp op_lt opf_B0 ha hb (nomark _)
theorem E.le (ha : E X W a ta) (hb : E X W b tb) : E X W (.Compare a [.LtE] [b] pos) (eOp leF ta tb) := E.cmp op_le opf_B0 ha hb (nomark _)
theorem E.gt (ha : E X W a ta) (hb : E X W b tb) : E X W (.Compare a [.Gt] [b] pos) (eOp gtF ta tb) := E.cmp op_gt opf_B0 ha hb (nomark _)
theorem E.ge (ha : E X W a ta) (hb : E X W b tb) : E X W (.Compare a [.GtE] [b] pos) (eOp geF ta tb) := E.cmp op_ge opf_B0 ha hb (nomark _)
theorem E.eq (hu : X.A.units + 64 < cLine) (ha : E X W a ta) (hb : E X W b tb) : E X W (.Compare a [.Eq] [b] pos) (eOp eqF ta tb) := E.cmp (or_eq hu) opf_eq ha hb (nomark _)
theorem E.ne (hu : X.A.units + 64 < cLine) (ha : E X W a ta) (hb : E X W b tb) : E X W (.Compare a [.NotEq] [b] pos) (eOp neF ta tb) := E.cmp (or_ne hu) opf_ne ha hb (nomark _)
/-- is None, is not None -/
def isNP : PV → Bool
  | .non => true
  | _ => false
theorem isNP_rv {L : Nat} {p : PV} {x : V} (h : RV X H g L p x) : decide (x = V.non) = isNP p := by
  cases p with
  | con m k xs => simp only [RV] at h; obtain ⟨a, vs, rfl, _⟩ := h; rfl
  | ref n => simp only [RV] at h; obtain ⟨_, rfl⟩ := h; rfl
  | fn x => simp only [RV] at h; obtain ⟨a, _, rfl⟩ := h; rfl
  | ty x => simp only [RV] at h; subst h; rfl
  | non => rw [h.non_inv] <;> rfl
  | bl _ => rw [h.bl_inv] <;> rfl
  | int _ => rw [h.int_inv] <;> rfl
  | str _ => rw [h.str_inv] <;> rfl
def eU (f : PV → PV) (t : EF) : EF := fun Γ S => (t Γ S).bind fun p S1 => .ok (f p) S1
/-- chains -/
def eChain (f f' : OF) (ta tb tc : EF) : EF := fun Γ S => (ta Γ S).bind fun x S1 => (tb Γ S1).bind fun y S2 => (R.of (f x y S2)).bind fun z S3 => match z with
  | .bl true => (tc Γ S3).bind fun w S4 => R.of (f' y w S4)
  | .bl false => .ok (.bl false) S3
  | _ => .bad
/-! ### tests -/
def bE (t : EF) : BF := fun Γ S => (t Γ S).bind fun v S1 => match v with
  | .bl b => .ok b S1
  | _ => .bad
theorem OKw.cont {α : Type} {σ : L2.St} {r : R α} {P : α → Sto → G → Hp → Prop} (e : Ext X H g S H' g' S') (h : OKw X W σ H g S r P) : OKw X W σ H' g' S' r P := by
  cases r with
  | ok v S1 => exact fun g1 H1 e1 => h g1 H1 (e.trans e1)
  | ex c fs S1 => exact fun g1 H1 cls d e1 => h g1 H1 cls d (e.trans e1)
  | bad => exact h
theorem liftB_E {t : EF} {σ : L2.St} {H : Hp} {Q : Bool → Hp → Prop} (h : liftB X W (bE t) σ H Q) : lift X W t σ H fun x H' => ∃ k, x = .bl k ∧ Q k H' := by
  obtain ⟨g, Γ, S, rel, rg, ok⟩ := h
  refine ⟨g, Γ, S, rel, rg, OKw.mono (OKw.bind ok) fun p S1 g1 H1 _ e1 h1 x rx => ?_⟩
  split at h1
  · exact ⟨_, rx.bl_inv, OKw.ok e1.rel h1⟩
  · exact h1.elim
theorem B.cmp {op : CmpOp} {r : R2} {f : OF} (ho : OpR X (compareOp op) r) (hf : OpF X r f) (ha : E X W a ta) (hb : E X W b tb) (hm : behindInMarks op b = false) : B X W (.Compare a [op] [b] pos) (bE (eOp f ta tb)) :=
  pt_imp (pt_cmpR ho ha hb hm) fun σ H Q h => lift_op hf (liftB_E h)
theorem B.lt (ha : E X W a ta) (hb : E X W b tb) : B X W (.Compare a [.Lt] [b] pos) (bE (eOp ltF ta tb)) := B.cmp op_lt opf_B0 ha hb (nomark _)
theorem B.le (ha : E X W a ta) (hb : E X W b tb) : B X W (.Compare a [.LtE] [b] pos) (bE (eOp leF ta tb)) := B.cmp op_le opf_B0 ha hb (nomark _)
theorem B.gt (ha : E X W a ta) (hb : E X W b tb) : B X W (.Compare a [.Gt] [b] pos) (bE (eOp gtF ta tb)) := B.cmp op_gt opf_B0 ha hb (nomark _)
theorem B.ge (ha : E X W a ta) (hb : E X W b tb) : B X W (.Compare a [.GtE] [b] pos) (bE (eOp geF ta tb)) := B.cmp op_ge opf_B0 ha hb (nomark _)
theorem B.eq (hu : X.A.units + 64 < cLine) (ha : E X W a ta) (hb : E X W b tb) : B X W (.Compare a [.Eq] [b] pos) (bE (eOp eqF ta tb)) := B.cmp (or_eq hu) opf_eq ha hb (nomark _)
theorem B.ne (hu : X.A.units + 64 < cLine) (ha : E X W a ta) (hb : E X W b tb) : B X W (.Compare a [.NotEq] [b] pos) (bE (eOp neF ta tb)) := B.cmp (or_ne hu) opf_ne ha hb (nomark _)
/-- a comparison's reading as a test -/
theorem B.ofPC {op : CmpOp} {t : TE} {te : EF} (h : PC X op a b t) (k : ∀ σ H Q, lift X W te σ H Q → t σ H Q) (h1 : behindInMarks op b = false) : B X W (.Compare a [op] [b] pos) (bE te) :=
  pt_imp (pt_cmp h h1) fun σ H Q q => k _ _ _ (liftB_E q)
theorem isN_imp {σ : L2.St} {H : Hp} {Q : VK} (h : lift X W (eU (fun p => .bl (isNP p)) ta) σ H Q) : tIsN (lift X W ta) σ H Q := by
  obtain ⟨g, Γ, S, rel, rg, ok⟩ := h
  exact ⟨g, Γ, S, rel, rg, OKw.mono (OKw.bind ok) fun p S1 g1 H1 _ e1 h1 x rx => by
    show Q (.bl (decide (x = V.non))) H1
    rw [isNP_rv rx]
    exact OKw.ok e1.rel h1 _ RV.bl⟩
theorem notN_imp {σ : L2.St} {H : Hp} {Q : VK} (h : lift X W (eU (fun p => .bl (!isNP p)) ta) σ H Q) : tNotN (lift X W ta) σ H Q := by
  obtain ⟨g, Γ, S, rel, rg, ok⟩ := h
  exact ⟨g, Γ, S, rel, rg, OKw.mono (OKw.bind ok) fun p S1 g1 H1 _ e1 h1 x rx => by
    show Q (.bl (!decide (x = V.non))) H1
    rw [isNP_rv rx]
    exact OKw.ok e1.rel h1 _ RV.bl⟩
theorem E.isN {j pos'} (ha : E X W a ta) : E X W (.Compare a [.Is] [.Constant .none j pos'] pos) (eU (fun p => .bl (isNP p)) ta) := pe_imp (pe_cmp (pc_isN ha) (nomark _)) fun _ _ _ h => isN_imp h
theorem E.notN {j pos'} (ha : E X W a ta) : E X W (.Compare a [.IsNot] [.Constant .none j pos'] pos) (eU (fun p => .bl (!isNP p)) ta) := pe_imp (pe_cmp (pc_notN ha) (nomark _)) fun _ _ _ h => notN_imp h
theorem B.isN {j pos'} (ha : E X W a ta) : B X W (.Compare a [.Is] [.Constant .none j pos'] pos) (bE (eU (fun p => .bl (isNP p)) ta)) := B.ofPC (pc_isN ha) (fun _ _ _ h => isN_imp h) (nomark _)
theorem B.notN {j pos'} (ha : E X W a ta) : B X W (.Compare a [.IsNot] [.Constant .none j pos'] pos) (bE (eU (fun p => .bl (!isNP p)) ta)) := B.ofPC (pc_notN ha) (fun _ _ _ h => notN_imp h) (nomark _)
theorem chain_imp {r r' : R2} {f f' : OF} (hf : OpF X r f) (hf' : OpF X r' f') {σ : L2.St} {H : Hp} {Q : VK} (h : lift X W (eChain f f' ta tb tc) σ H Q) : tChain r r' (lift X W ta) (lift X W tb) (lift X W tc) σ H Q := by
  obtain ⟨g, Γ, S, rel, rg, ok⟩ := h
  refine ⟨g, Γ, S, rel, rg, OKw.mono (OKw.bind ok) fun p S1 g1 H1 _ e1 h1 x rx => ?_⟩
  refine ⟨g1, Γ, S1, e1.rel, rg.up rel e1, OKw.mono (OKw.bind h1) fun q S2 g2 H2 _ e2 h2 y ry => ?_⟩
  have rx2 := RV.up e1.rel e2 p x rx
  cases hw : f p q S2 with
  | none => rw [hw] at h2; exact h2.elim
  | some z =>
    obtain ⟨w, S3⟩ := z
    rw [hw] at h2
    refine hf H2 g2 S2 p q x y w S3 _ e2.rel rx2 ry hw fun g3 H3 z e3 rz => ?_
    have h2 : OKw X W σ H2 g2 S2 (match w with
      | .bl true => (tc Γ S3).bind fun w S4 => R.of (f' q w S4)
      | .bl false => .ok (.bl false) S3
      | _ => .bad) _ := h2
    split at h2
    · refine ⟨true, rz.bl_inv, ?_⟩
      rw [if_pos rfl]
      refine ⟨g3, Γ, S3, e3.rel, ((rg.up rel e1).up e1.rel e2).up e2.rel e3, ?_⟩
      have h3 : OKw X W σ H3 g3 S3 ((tc Γ S3).bind fun w S4 => R.of (f' q w S4)) (fun v S' g' H' => ∀ x, RV X H' g' S'.length v x → Q x H') := by
        cases hr : (tc Γ S3).bind fun w S4 => R.of (f' q w S4) with
        | ok v S' => rw [hr] at h2; exact fun g' H' e' => h2 g' H' (e3.trans e')
        | ex c fs S' => rw [hr] at h2; exact fun g' H' cls d e' => h2 g' H' cls d (e3.trans e')
        | bad => rw [hr] at h2; exact h2
      refine OKw.mono (OKw.bind h3) fun w4 S4 g4 H4 _ e4 h4 z4 r4 => ?_
      cases hv : f' q w4 S4 with
      | none => rw [hv] at h4; exact h4.elim
      | some z =>
        obtain ⟨w5, S5⟩ := z
        rw [hv] at h4
        exact hf' H4 g4 S4 q w4 y z4 w5 S5 Q e4.rel (RV.up e3.rel e4 _ _ (RV.up e2.rel e3 _ _ ry)) r4 hv fun g' H' z e5 rz => h4 g' H' e5 z rz
    · refine ⟨false, rz.bl_inv, ?_⟩
      rw [if_neg Bool.false_ne_true]
      exact h2 g3 H3 e3 _ RV.bl
    · exact h2.elim
theorem E.chain {op op' : CmpOp} {r r' : R2} {f f' : OF} (ho : OpR X (compareOp op) r) (ho' : OpR X (compareOp op') r') (hf : OpF X r f) (hf' : OpF X r' f') (ha : E X W a ta) (hb : E X W b tb) (hc : E X W c tc)
    (hm : lastMarks [op, op'] [b, c] = false := by with_unfolding_all rfl) : E X W (.Compare a [op, op'] [b, c] pos) (eChain f f' ta tb tc) :=
  pe_imp (pe_chain ho ho' ha hb hc hm) fun σ H Q h => chain_imp hf hf' h
theorem B.chain {op op' : CmpOp} {r r' : R2} {f f' : OF} (ho : OpR X (compareOp op) r) (ho' : OpR X (compareOp op') r') (hf : OpF X r f) (hf' : OpF X r' f') (ha : E X W a ta) (hb : E X W b tb) (hc : E X W c tc)
    (hm : lastMarks [op, op'] [b, c] = false := by with_unfolding_all rfl) : B X W (.Compare a [op, op'] [b, c] pos) (bE (eChain f f' ta tb tc)) :=
  pt_imp (pt_chain ho ho' ha hb hc hm) fun σ H Q h => chain_imp hf hf' (liftB_E h)
/-- truth -/
def truB (S : Sto) (p : PV) : Option Bool := match p with
  | .non => some false
  | .bl b => some b
  | .int i => some (decide (i ≠ 0))
  | p => match deref S p with
    | some (.lst, xs) => some (!xs.isEmpty)
    | some (.tup, xs) => some (!xs.isEmpty)
    | _ => none
def bT (t : EF) : BF := fun Γ S => (t Γ S).bind fun v S1 => match truB S1 v with
  | some b => .ok b S1
  | none => .bad
theorem RVs.isEmpty {L : Nat} {xs : List PV} {vs : List V} (h : RVs X H g L xs vs) : (!xs.isEmpty) = !vs.isEmpty := by
  have := h.len
  cases xs <;> cases vs <;> simp_all
theorem truB_ok {p : PV} {x : V} {b : Bool} (rel : Rel X H g S) (rx : RV X H g S.length p x) (h : truB S p = some b) : TruV X.K x H b := by
  unfold truB at h
  split at h
  · cases h; rw [rx.non_inv]; exact rfl
  · cases h; rw [rx.bl_inv]; exact rfl
  · rename_i i
    cases h; rw [rx.int_inv]
    show decide (i ≠ 0) = (i != 0)
    by_cases z : i = 0 <;> simp [z]
  · split at h
    · rename_i xs e
      obtain ⟨a, vs, rfl, h2, h3⟩ := deref_ok rel rx e
      cases h
      exact Or.inl ⟨vs, h3.lst, h2.isEmpty⟩
    · rename_i xs e
      obtain ⟨a, vs, rfl, h2, h3⟩ := deref_ok rel rx e
      cases h
      exact Or.inr (Or.inl ⟨vs, h3.tup, h2.isEmpty⟩)
    · cases h
theorem B.tru (ha : E X W a ta) (he : ∀ whole, isTrue a X.env whole = (do let v ← whole; standAt a.pos; holding [v] (truthy v)) := by intro _; rfl) : B X W a (bT ta) :=
  pt_imp (pt_truth ha he) fun σ H Q ⟨g, Γ, S, rel, rg, ok⟩ => ⟨g, Γ, S, rel, rg, OKw.mono (OKw.bind ok) fun p S1 g1 H1 _ e1 h1 x rx => by
    split at h1
    · rename_i b hb
      exact ⟨b, truB_ok e1.rel rx hb, OKw.ok e1.rel h1⟩
    · exact h1.elim⟩
/-- and, or, not -/
def BW (X : Cx) (W : WX) (e : Expr) (t : BF) : Prop := PW X e (liftB X W t)
def bAnd (s t : BF) : BF := fun Γ S => (s Γ S).bind fun k S1 => if k = true then t Γ S1 else .ok false S1
def bOr (s t : BF) : BF := fun Γ S => (s Γ S).bind fun k S1 => if k = true then .ok true S1 else t Γ S1
def bNot (s : BF) : BF := fun Γ S => (s Γ S).bind fun k S1 => .ok (!k) S1
variable {sa sb : BF}
theorem pw_imp {e : Expr} {t t' : TT} (h : PW X e t) (k : ∀ σ H Q, t' σ H Q → t σ H Q) : PW X e t' := ⟨fun whole pins s σ H Q I q => h.run whole pins s σ H Q I (k σ H Q q)⟩
theorem BW.and1 (ha : B X W a sa) : BW X W (.BoolOp .And [a] pos) sa := pw_and1 ha
theorem BW.or1 (ha : B X W a sa) : BW X W (.BoolOp .Or [a] pos) sa := pw_or1 ha
theorem BW.and (ha : B X W a sa) (hb : BW X W (.BoolOp .And (b :: rest) pos) sb) : BW X W (.BoolOp .And (a :: b :: rest) pos) (bAnd sa sb) :=
  pw_imp (pw_and ha hb) fun σ H Q ⟨g, Γ, S, rel, rg, ok⟩ => ⟨g, Γ, S, rel, rg, OKw.mono (OKw.bind ok) fun k S1 g1 H1 _ e1 h1 => by
    cases k with
    | true => rw [if_pos rfl] at h1 ⊢; exact ⟨g1, Γ, S1, e1.rel, rg.up rel e1, h1⟩
    | false => rw [if_neg Bool.false_ne_true] at h1 ⊢; exact OKw.ok e1.rel h1⟩
theorem BW.or (ha : B X W a sa) (hb : BW X W (.BoolOp .Or (b :: rest) pos) sb) : BW X W (.BoolOp .Or (a :: b :: rest) pos) (bOr sa sb) :=
  pw_imp (pw_or ha hb) fun σ H Q ⟨g, Γ, S, rel, rg, ok⟩ => ⟨g, Γ, S, rel, rg, OKw.mono (OKw.bind ok) fun k S1 g1 H1 _ e1 h1 => by
    cases k with
    | true => rw [if_pos rfl] at h1 ⊢; exact OKw.ok e1.rel h1
    | false => rw [if_neg Bool.false_ne_true] at h1 ⊢; exact ⟨g1, Γ, S1, e1.rel, rg.up rel e1, h1⟩⟩
theorem BW.t (h : BW X W e sa) : B X W e sa := PW.pt h
theorem B.not (ha : B X W a sa) : B X W (.UnaryOp .Not a pos) (bNot sa) :=
  pt_imp (pt_not ha) fun σ H Q ⟨g, Γ, S, rel, rg, ok⟩ => ⟨g, Γ, S, rel, rg, OKw.mono (OKw.bind ok) fun k S1 g1 H1 _ e1 h1 => OKw.ok e1.rel h1⟩
/-- as values -/
def eAnd (s t : EF) : EF := fun Γ S => (s Γ S).bind fun v S1 => match v with
  | .bl true => t Γ S1
  | .bl false => .ok (.bl false) S1
  | _ => .bad
def eOr (s t : EF) : EF := fun Γ S => (s Γ S).bind fun v S1 => match v with
  | .bl true => .ok (.bl true) S1
  | .bl false => t Γ S1
  | _ => .bad
def eNot (s : EF) : EF := fun Γ S => (s Γ S).bind fun v S1 => match v with
  | .bl k => .ok (.bl (!k)) S1
  | _ => .bad
theorem E.one {op} (h : E X W a ta) : E X W (.BoolOp op [a] pos) ta := pe_one h
theorem E.and (ha : E X W a ta) (hb : E X W (.BoolOp .And (b :: rest) pos) tb) : E X W (.BoolOp .And (a :: b :: rest) pos) (eAnd ta tb) :=
  pe_imp (pe_and ha hb) fun σ H Q ⟨g, Γ, S, rel, rg, ok⟩ => ⟨g, Γ, S, rel, rg, OKw.mono (OKw.bind ok) fun p S1 g1 H1 _ e1 h1 x rx => by
    split at h1
    · exact ⟨true, rx.bl_inv, by rw [if_pos rfl]; exact ⟨g1, Γ, S1, e1.rel, rg.up rel e1, h1⟩⟩
    · exact ⟨false, rx.bl_inv, by rw [if_neg Bool.false_ne_true]; exact OKw.ok e1.rel h1 _ RV.bl⟩
    · exact h1.elim⟩
theorem E.or (ha : E X W a ta) (hb : E X W (.BoolOp .Or (b :: rest) pos) tb) : E X W (.BoolOp .Or (a :: b :: rest) pos) (eOr ta tb) :=
  pe_imp (pe_or ha hb) fun σ H Q ⟨g, Γ, S, rel, rg, ok⟩ => ⟨g, Γ, S, rel, rg, OKw.mono (OKw.bind ok) fun p S1 g1 H1 _ e1 h1 x rx => by
    split at h1
    · exact ⟨true, rx.bl_inv, by rw [if_pos rfl]; exact OKw.ok e1.rel h1 _ RV.bl⟩
    · exact ⟨false, rx.bl_inv, by rw [if_neg Bool.false_ne_true]; exact ⟨g1, Γ, S1, e1.rel, rg.up rel e1, h1⟩⟩
    · exact h1.elim⟩
theorem E.not (ha : E X W a ta) : E X W (.UnaryOp .Not a pos) (eNot ta) :=
  pe_imp (pe_not ha) fun σ H Q ⟨g, Γ, S, rel, rg, ok⟩ => ⟨g, Γ, S, rel, rg, OKw.mono (OKw.bind ok) fun p S1 g1 H1 _ e1 h1 x rx => by
    split at h1
    · exact ⟨_, rx.bl_inv, OKw.ok e1.rel h1 _ RV.bl⟩
    · exact h1.elim⟩
def eIf (s : BF) (ta tb : EF) : EF := fun Γ S => (s Γ S).bind fun k S1 => if k = true then ta Γ S1 else tb Γ S1
theorem E.ifExp (hc : B X W c sa) (ha : E X W a ta) (hb : E X W b tb) : E X W (.IfExp c a b pos) (eIf sa ta tb) :=
  pe_imp (pe_ifExp hc ha hb) fun σ H Q ⟨g, Γ, S, rel, rg, ok⟩ => ⟨g, Γ, S, rel, rg, OKw.mono (OKw.bind ok) fun k S1 g1 H1 _ e1 h1 => by
    cases k with
    | true => rw [if_pos rfl] at h1 ⊢; exact ⟨g1, Γ, S1, e1.rel, rg.up rel e1, h1⟩
    | false => rw [if_neg Bool.false_ne_true] at h1 ⊢; exact ⟨g1, Γ, S1, e1.rel, rg.up rel e1, h1⟩⟩
/-- - a -/
def eNeg (s : EF) : EF := fun Γ S => (s Γ S).bind fun v S1 => match v with
  | .int i => .ok (.int (-i)) S1
  | _ => .bad
theorem E.neg (hn : UnR X (unaryOp .USub) (rU fun i => .int (-i))) (ha : E X W a ta) : E X W (.UnaryOp .USub a pos) (eNeg ta) :=
  pe_imp (pe_un hn ha) fun σ H Q ⟨g, Γ, S, rel, rg, ok⟩ => ⟨g, Γ, S, rel, rg, OKw.mono (OKw.bind ok) fun p S1 g1 H1 _ e1 h1 x rx => by
    split at h1
    · exact ⟨_, rx.int_inv, OKw.ok e1.rel h1 _ RV.int⟩
    · exact h1.elim⟩

/-! ### rows of arguments, displays -/
def aNil : AF := fun _ S => .ok [] S
def aCons (t : EF) (r : AF) : AF := fun Γ S => (t Γ S).bind fun v S1 => (r Γ S1).bind fun vs S2 => .ok (v :: vs) S2
variable {tr : AF}
theorem A.nil : A X W [] aNil := pa_imp pa_nil fun σ H Q ⟨g, Γ, S, rel, rg, ok⟩ => OKw.ok rel ok [] RVs.nil
theorem A.cons (ha : E X W e ta) (hr : A X W es tr) (hs : starEach (e :: es) X.env = (false, eval e X.env) :: starEach es X.env := by rfl) : A X W (e :: es) (aCons ta tr) :=
  pa_imp (pa_cons ha hr hs) fun σ H Q ⟨g, Γ, S, rel, rg, ok⟩ => ⟨g, Γ, S, rel, rg, OKw.mono (OKw.bind ok) fun p S1 g1 H1 _ e1 h1 x rx =>
    ⟨g1, Γ, S1, e1.rel, rg.up rel e1, OKw.mono (OKw.bind h1) fun ps S2 g2 H2 _ e2 h2 xs rxs => OKw.ok e2.rel h2 _ (RVs.cons (RV.up e1.rel e2 _ _ rx) rxs)⟩⟩
def eTup (t : AF) : EF := fun Γ S => (t Γ S).bind fun vs S1 => if vs.length ≤ sizeLine then .ok (.con .own .tup vs) S1 else .bad
def eLst (m : Bool) (t : AF) : EF := fun Γ S => (t Γ S).bind fun vs S1 => if vs.length ≤ sizeLine then .ok (newP m .lst vs S1).1 (newP m .lst vs S1).2 else .bad
theorem E.tup {x1} (h : A X W es tr) : E X W (.Tuple es x1 pos) (eTup tr) :=
  pe_imp (pe_tup h) fun σ H Q ⟨g, Γ, S, rel, rg, ok⟩ => ⟨g, Γ, S, rel, rg, OKw.mono (OKw.bind ok) fun ps S1 g1 H1 _ e1 h1 xs rxs => by
    split at h1
    · refine ⟨by rw [← rxs.len]; assumption, fun p hp => ?_⟩
      obtain ⟨z1, z2⟩ := newF_ok e1.rel hp (k := .tup) (o := .tup _) rfl rxs
      exact h1 _ _ z1 _ z2
    · exact h1.elim⟩
theorem E.lst (m : Bool) (h : A X W es tr) : E X W (.List es pos) (eLst m tr) :=
  pe_imp (pe_lst h) fun σ H Q ⟨g, Γ, S, rel, rg, ok⟩ => ⟨g, Γ, S, rel, rg, OKw.mono (OKw.bind ok) fun ps S1 g1 H1 _ e1 h1 xs rxs => by
    split at h1
    · refine ⟨by rw [← rxs.len]; assumption, fun p hp => ?_⟩
      obtain ⟨g', z1, z2⟩ := new_ok (m := m) e1.rel hp (k := .lst) (o := .lst _) rfl (by decide) rxs
      exact h1 _ _ z1 _ z2
    · exact h1.elim⟩

/-! ### subscripts -/
def ixB (S : Sto) (p q : PV) : Option PV := match q with
  | .int i => match p with
    | .str z => if z.length ≤ sizeLine then (atI z.cps.toList i).map fun c => .str ⟨#[c]⟩ else none
    | p => match deref S p with
      | some (.lst, xs) => atI xs i
      | some (.tup, xs) => atI xs i
      | _ => none
  | _ => none
def ixF : OF := fun p q S => (ixB S p q).map fun v => (v, S)
theorem RVs.atI {L : Nat} {xs : List PV} {vs : List V} {i : Int} {p : PV} (h : RVs X H g L xs vs) (e : L2.atI xs i = some p) : ∃ v, L2.atI vs i = some v ∧ RV X H g L p v := by
  unfold L2.atI at e ⊢
  rw [← h.len]
  cases q : ixN xs.length i with
  | none => rw [q] at e; cases e
  | some j =>
    rw [q] at e
    exact h.get (i := j) e
theorem opf_ix : OpF X (rIx X.K) ixF := by
  intro H g S p q x y w S' Q rel rx ry h k
  simp only [ixF, Option.map_eq_some_iff, Prod.mk.injEq] at h
  obtain ⟨v, h, rfl, rfl⟩ := h
  unfold ixB at h
  split at h
  · split at h
    · split at h
      · rename_i hz
        simp only [Option.map_eq_some_iff] at h
        obtain ⟨c, h, rfl⟩ := h
        exact Or.inr (Or.inr ⟨_, _, c, rx.str_inv, ry.int_inv, hz, h, k g H _ (Ext.refl rel) RV.str⟩)
      · cases h
    · split at h
      · rename_i xs e
        obtain ⟨a, vs, rfl, h2, h3⟩ := deref_ok rel rx e
        obtain ⟨z, q1, q2⟩ := h2.atI h
        exact Or.inl ⟨a, vs, _, z, rfl, ry.int_inv, h3.lst, q1, k g H _ (Ext.refl rel) q2⟩
      · rename_i xs e
        obtain ⟨a, vs, rfl, h2, h3⟩ := deref_ok rel rx e
        obtain ⟨z, q1, q2⟩ := h2.atI h
        exact Or.inr (Or.inl ⟨a, vs, _, z, rfl, ry.int_inv, h3.tup, q1, k g H _ (Ext.refl rel) q2⟩)
      · cases h
  · cases h
theorem E.ix (ha : E X W a ta) (hb : E X W b tb) (hs : PlainIx b := by exact fun _ _ => rfl) : E X W (.Subscript a b pos) (eOp ixF ta tb) :=
  pe_imp (pe_ix ix_seq ha hb hs) fun _ _ _ h => lift_op opf_ix h

/-! ### calls of what is built in -/
abbrev CF := List PV → Sto → Option (PV × Sto)
def eCall (f : CF) (t : AF) : EF := fun Γ S => (t Γ S).bind fun ps S1 => R.of (f ps S1)
def CallF (X : Kx) (r : List V → Hp → VK → Prop) (f : CF) : Prop := ∀ (H : Hp) (g : G) (S : Sto) (ps : List PV) (xs : List V) (w : PV) (S' : Sto) (Q : VK), Rel X H g S → RVs X H g S.length ps xs → f ps S = some (w, S') →
  (∀ g' H' z, Ext X H g S H' g' S' → RV X H' g' S'.length w z → Q z H') → r xs H Q
theorem lift_call {r : List V → Hp → VK → Prop} {f : CF} (hf : CallF X r f) {σ : L2.St} {H : Hp} {Q : VK} (h : lift X W (eCall f tr) σ H Q) : liftA X W tr σ H fun xs H1 => r xs H1 Q := by
  obtain ⟨g, Γ, S, rel, rg, ok⟩ := h
  refine ⟨g, Γ, S, rel, rg, OKw.mono (OKw.bind ok) fun ps S1 g1 H1 _ e1 h1 xs rxs => ?_⟩
  cases hw : f ps S1 with
  | none => rw [hw] at h1; exact h1.elim
  | some z =>
    obtain ⟨w, S2⟩ := z
    rw [hw] at h1
    exact hf H1 g1 S1 ps xs w S2 Q e1.rel rxs hw fun g' H' z e2 rz => h1 g' H' e2 z rz
variable {x : Str} {p : Pos} {id T : String}
theorem E.callB {r : List V → Hp → VK → Prop} {f : CF} (hc : CallR X (.builtin id) r) (hf : CallF X r f) (hg : Gl X x) (hm : X.mg x = none) (hv : bootBuiltins x = some (.builtin id)) (ha : A X W (e :: es) tr) (hn : x ≠ "__name__" := by decide) (hdb : (x == ("__debug__" : Str)) = false := by decide)
    (he : starEach (e :: es) X.env = (false, eval e X.env) :: starEach es X.env := by rfl) (hpl : (backTo pos (starEach es X.env)).any (·.1) = false := by rfl) : E X W (.Call (.Name x p) (e :: es) [] pos) (eCall f tr) :=
  pe_imp (pe_callB hc hg hm hv ha hn hdb he hpl) fun _ _ _ h => lift_call hf h
theorem E.callTy {r : List V → Hp → VK → Prop} {f : CF} (hc : CallR X (.type T) r) (hf : CallF X r f) (hg : Gl X x) (hm : X.mg x = none) (hv : bootBuiltins x = some (.type T)) (ha : A X W (e :: es) tr) (hn : x ≠ "__name__" := by decide) (hdb : (x == ("__debug__" : Str)) = false := by decide)
    (he : starEach (e :: es) X.env = (false, eval e X.env) :: starEach es X.env := by rfl) (hpl : (backTo pos (starEach es X.env)).any (·.1) = false := by rfl) : E X W (.Call (.Name x p) (e :: es) [] pos) (eCall f tr) :=
  pe_imp (pe_callTy hc hg hm hv ha hn hdb he hpl) fun _ _ _ h => lift_call hf h
end
end Pv

/-! Pv5: statements, loops. -/
namespace Pv
open PySem PySem.Spec PyProof.Rows L2
inductive RS where
  | nx (Γ : Gam) (S : Sto) | rt (v : PV) (S : Sto) | bk (Γ : Gam) (S : Sto) | ct (Γ : Gam) (S : Sto) | ex (c : Str) (fs : List (Str × PV)) (Γ : Gam) (S : Sto) | bad
abbrev SF := Gam → Sto → RS
abbrev GF := PV → Gam → Sto → R Gam
def R.st {α : Type} (r : R α) (Γ : Gam) (k : α → Sto → RS) : RS := match r with
  | .ok a S => k a S
  | .ex c fs S => .ex c fs Γ S
  | .bad => .bad
section
variable {X : Cx} {H H' H'' : Hp} {g g' g'' : G} {S S' S'' : Sto} {W : WX} {a b c e o : Expr} {es rest : List Expr} {ta tb tc to : EF} {pos : Pos} {D : Ends} {sts : List Stmt} {s1 s2 : Stmt} {t u : SF} {Γ : Gam} {σ : L2.St}

def OKs (X : Kx) (W : WX) (D : Ends) (H : Hp) (g : G) (S : Sto) (r : RS) : Prop := match r with
  | .nx Γ' S' => ∀ g' H' σ', Ext X H g S H' g' S' → RG X H' g' S'.length Γ' σ' → D.nx σ' H'
  | .bk Γ' S' => ∀ g' H' σ', Ext X H g S H' g' S' → RG X H' g' S'.length Γ' σ' → D.bk σ' H'
  | .ct Γ' S' => ∀ g' H' σ', Ext X H g S H' g' S' → RG X H' g' S'.length Γ' σ' → D.ct σ' H'
  | .rt v S' => ∀ g' H' x, Ext X H g S H' g' S' → RV X H' g' S'.length v x → D.rt x H'
  | .ex c fs Γ' S' => ∀ g' H' σ' cls d, Ext X H g S H' g' S' → RG X H' g' S'.length Γ' σ' → RX X H' g' S'.length c fs cls d → W cls d σ' H'
  | .bad => False
theorem OKs.cont {r : RS} (e : Ext X H g S H' g' S') (h : OKs X W D H g S r) : OKs X W D H' g' S' r := by
  cases r with
  | nx Γ1 S1 => exact fun g1 H1 σ1 e1 => h g1 H1 σ1 (e.trans e1)
  | bk Γ1 S1 => exact fun g1 H1 σ1 e1 => h g1 H1 σ1 (e.trans e1)
  | ct Γ1 S1 => exact fun g1 H1 σ1 e1 => h g1 H1 σ1 (e.trans e1)
  | rt v S1 => exact fun g1 H1 x e1 => h g1 H1 x (e.trans e1)
  | ex c fs Γ1 S1 => exact fun g1 H1 σ1 cls d e1 => h g1 H1 σ1 cls d (e.trans e1)
  | bad => exact h
def liftS (X : Cx) (W : WX) (t : SF) : TS := fun D σ H => ∃ g Γ S, Rel X H g S ∧ RG X H g S.length Γ σ ∧ OKs X W D H g S (t Γ S)
def liftG (X : Cx) (W : WX) (t : GF) : TG := fun v σ H Q => ∃ g Γ S p, Rel X H g S ∧ RG X H g S.length Γ σ ∧ RV X H g S.length p v ∧ OKw X W σ H g S (t p Γ S) fun Γ' S' g' H' => ∀ σ', RG X H' g' S'.length Γ' σ' → Q σ' H'
/-- a statement does t; a block; a target takes by t -/
def St (X : Cx) (W : WX) (s : Stmt) (t : SF) : Prop := PS X s (liftS X W t)
def Ss (X : Cx) (W : WX) (s : List Stmt) (t : SF) : Prop := PSs X s (liftS X W t)
def Tg (X : Cx) (W : WX) (e : Expr) (t : GF) : Prop := PG X e (liftG X W t)
theorem ps_imp {s : Stmt} {t t' : TS} (h : PS X s t) (k : ∀ D σ H, t' D σ H → t D σ H) : PS X s t' := ⟨fun pins s σ H D I q => h.run pins s σ H D I (k D σ H q)⟩
theorem pss_imp {s : List Stmt} {t t' : TS} (h : PSs X s t) (k : ∀ D σ H, t' D σ H → t D σ H) : PSs X s t' := ⟨fun pins s σ H D I q => h.run pins s σ H D I (k D σ H q)⟩
theorem pg_imp {e : Expr} {t t' : TG} (h : PG X e t) (k : ∀ v σ H Q, t' v σ H Q → t v σ H Q) : PG X e t' := ⟨fun pins s σ H v u Q I r q => h.run pins s σ H v u Q I r (k v σ H Q q)⟩

theorem OKs.st {α : Type} {r : R α} {k : α → Sto → RS} (rel : Rel X H g S) (rg : RG X H g S.length Γ σ) (h : OKs X W D H g S (r.st Γ k)) : OKw X W σ H g S r fun v S1 g1 H1 => OKs X W D H1 g1 S1 (k v S1) := by
  cases r with
  | ok v S1 => exact fun g1 H1 e1 => OKs.cont e1 h
  | ex c fs S1 => exact fun g1 H1 cls d e1 rx => h g1 H1 σ cls d e1 (rg.up rel e1) rx
  | bad => exact h

def sSeq (t u : SF) : SF := fun Γ S => match t Γ S with
  | .nx Γ1 S1 => u Γ1 S1
  | r => r
def sNext : SF := fun Γ S => .nx Γ S
theorem Ss.nil : Ss X W [] sNext := pss_imp pss_nil fun D σ H ⟨g, Γ, S, rel, rg, ok⟩ => ok g H σ (Ext.refl rel) rg
theorem Ss.one (h : St X W s1 t) : Ss X W [s1] t := pss_one h
theorem Ss.cons (h : St X W s1 t) (k : Ss X W sts u) : Ss X W (s1 :: sts) (sSeq t u) :=
  pss_imp (pss_cons h k) fun D σ H ⟨g, Γ, S, rel, rg, ok⟩ => ⟨g, Γ, S, rel, rg, by
    unfold sSeq at ok
    cases q : t Γ S with
    | nx Γ1 S1 =>
      rw [q] at ok
      exact fun g1 H1 σ1 e1 rg1 => ⟨g1, Γ1, S1, e1.rel, rg1, OKs.cont e1 ok⟩
    | bk Γ1 S1 => rw [q] at ok; exact ok
    | ct Γ1 S1 => rw [q] at ok; exact ok
    | rt v S1 => rw [q] at ok; exact ok
    | ex c fs Γ1 S1 => rw [q] at ok; exact ok
    | bad => rw [q] at ok; exact ok⟩
theorem St.pass : St X W (.Pass pos) sNext := ps_imp ps_pass fun D σ H ⟨g, Γ, S, rel, rg, ok⟩ => ok g H σ (Ext.refl rel) rg
def sBreak : SF := fun Γ S => .bk Γ S
theorem St.brk : St X W (.Break pos) sBreak := ps_imp ps_break fun D σ H ⟨g, Γ, S, rel, rg, ok⟩ => ok g H σ (Ext.refl rel) rg
def sExpr (t : EF) : SF := fun Γ S => (t Γ S).st Γ fun _ S1 => .nx Γ S1
theorem St.expr (h : E X W e ta) (hs : swapsWith e none pos.line X.env = pure false := by rfl) : St X W (.Expr e pos) (sExpr ta) :=
  ps_imp (ps_expr h hs) fun D σ H ⟨g, Γ, S, rel, rg, ok⟩ => ⟨g, Γ, S, rel, rg, OKw.mono (OKs.st rel rg ok) fun v S1 g1 H1 _ e1 h1 x _ => h1 g1 H1 σ (Ext.refl e1.rel) (rg.up rel e1)⟩
def sRet (t : EF) : SF := fun Γ S => (t Γ S).st Γ fun v S1 => .rt v S1
theorem St.ret (h : E X W e ta) : St X W (.Return (some e) pos) (sRet ta) :=
  ps_imp (ps_ret h) fun D σ H ⟨g, Γ, S, rel, rg, ok⟩ => ⟨g, Γ, S, rel, rg, OKw.mono (OKs.st rel rg ok) fun v S1 g1 H1 _ e1 h1 x rx => h1 g1 H1 x (Ext.refl e1.rel) rx⟩
theorem St.retN : St X W (.Return none pos) (sRet (eC .non)) :=
  ps_imp ps_retN fun D σ H ⟨g, Γ, S, rel, rg, ok⟩ => ok g H .non (Ext.refl rel) RV.non
def sIf (s : BF) (t u : SF) : SF := fun Γ S => (s Γ S).st Γ fun k S1 => if k = true then t Γ S1 else u Γ S1
theorem St.ite {sa : BF} {as bs : List Stmt} (hc : B X W c sa) (ha : Ss X W as t) (hb : Ss X W bs u) : St X W (.If c as bs pos) (sIf sa t u) :=
  ps_imp (ps_if hc ha hb) fun D σ H ⟨g, Γ, S, rel, rg, ok⟩ => ⟨g, Γ, S, rel, rg, OKw.mono (OKs.st rel rg ok) fun k S1 g1 H1 _ e1 h1 => by
    cases k with
    | true => rw [if_pos rfl] at h1 ⊢; exact ⟨g1, Γ, S1, e1.rel, rg.up rel e1, h1⟩
    | false => rw [if_neg Bool.false_ne_true] at h1 ⊢; exact ⟨g1, Γ, S1, e1.rel, rg.up rel e1, h1⟩⟩

/-! ### targets -/
def gN (i : Nat) : GF := fun p Γ S => .ok (Γ.set i (some p)) S
theorem Tg.name {i : Nat} {x : Str} (h : PG X (.Name x pos) (gName i)) : Tg X W (.Name x pos) (gN i) :=
  pg_imp h fun v σ H Q ⟨g, Γ, S, p, rel, rg, rv, ok⟩ => OKw.ok rel ok _ (rg.set rv)
abbrev GsF := List PV → Gam → Sto → R Gam
def liftGs (X : Cx) (W : WX) (t : GsF) : TGs := fun vs σ H Q => ∃ g Γ S ps, Rel X H g S ∧ RG X H g S.length Γ σ ∧ RVs X H g S.length ps vs ∧ OKw X W σ H g S (t ps Γ S) fun Γ' S' g' H' => ∀ σ', RG X H' g' S'.length Γ' σ' → Q σ' H'
/-- plain names -/
def gNs : List Nat → GsF
  | [], ps, Γ, S => match ps with
    | [] => .ok Γ S
    | _ => .bad
  | i :: is, ps, Γ, S => match ps with
    | p :: r => gNs is r (Γ.set i (some p)) S
    | [] => .bad
theorem gNs_ok : ∀ (is : List Nat) (ps : List PV) (Γ : Gam) (S : Sto), (∃ Γ' , gNs is ps Γ S = .ok Γ' S) ∨ gNs is ps Γ S = .bad
  | [], [], Γ, S => Or.inl ⟨Γ, rfl⟩
  | [], _ :: _, _, _ => Or.inr rfl
  | _ :: _, [], _, _ => Or.inr rfl
  | i :: is, p :: r, Γ, S => gNs_ok is r (Γ.set i (some p)) S
theorem gns_nil : PGs X [] (liftGs X W (gNs [])) := ⟨fun pins s σ H vs us Q I r ⟨g, Γ, S, ps, rel, rg, rv, ok⟩ => pgs_nil.run pins s σ H vs us Q I r (by
  cases ps with
  | nil => simp only [RVs] at rv; exact ⟨rv, OKw.ok rel ok _ rg⟩
  | cons _ _ => exact ok.elim)⟩
theorem gns_cons {i : Nat} {is : List Nat} {x : Str} (h : PG X (.Name x pos) (gName i)) (k : PGs X es (liftGs X W (gNs is)))
    (hs : (assignEach (.Name x pos :: es) X.env).map (·.2) = assign (.Name x pos) X.env :: (assignEach es X.env).map (·.2) := by rfl) : PGs X (.Name x pos :: es) (liftGs X W (gNs (i :: is))) :=
  ⟨fun pins s σ H vs us Q I r ⟨g, Γ, S, ps, rel, rg, rv, ok⟩ => (pgs_cons h k hs).run pins s σ H vs us Q I r (by
    cases ps with
    | nil => exact ok.elim
    | cons p ps =>
      simp only [RVs] at rv
      obtain ⟨v, w, rfl, h1, h2⟩ := rv
      refine ⟨v, w, rfl, g, _, S, ps, rel, rg.set h1, h2, ?_⟩
      have ok : OKw X W σ H g S (gNs is ps (Γ.set i (some p)) S) _ := ok
      rcases gNs_ok is ps (Γ.set i (some p)) S with ⟨Γ', q⟩ | q
      · rw [q] at ok ⊢; exact ok
      · rw [q] at ok; exact ok.elim)⟩
/-- a, b, .. = a tuple -/
def gT (is : List Nat) : GF := fun p Γ S => match deref S p with
  | some (.tup, xs) => gNs is xs Γ S
  | _ => .bad
theorem gNs_len : ∀ {is : List Nat} {ps : List PV} {Γ : Gam} {S : Sto}, (∃ Γ' S', gNs is ps Γ S = .ok Γ' S') → ps.length = is.length
  | [], [], _, _, _ => rfl
  | [], _ :: _, _, _, ⟨_, _, h⟩ => by cases h
  | _ :: _, [], _, _, ⟨_, _, h⟩ => by cases h
  | i :: is, p :: r, Γ, S, ⟨Γ', S', h⟩ => by
    simp only [List.length_cons, gNs_len (is := is) (ps := r) (Γ := Γ.set i (some p)) (S := S) ⟨Γ', S', h⟩]
theorem Tg.tup {is : List Nat} {k n : Nat} (hc : X.calm = true) (h : PGs X es (liftGs X W (gNs is))) (hi : is.length = n := by rfl) (hn : (assignEach es X.env).length = n := by rfl) (hst : (assignEach es X.env).findIdx? (·.1) = none := by rfl) :
    Tg X W (.Tuple es k pos) (gT is) :=
  pg_imp (pg_tup hc h hn hst) fun v σ H Q ⟨g, Γ, S, p, rel, rg, rv, ok⟩ => by
    unfold gT at ok
    split at ok
    · rename_i xs e
      obtain ⟨a, vs, rfl, h2, h3⟩ := deref_ok rel rv e
      have hl : xs.length = is.length := by
        rcases gNs_ok is xs Γ S with ⟨Γ', q⟩ | q
        · exact gNs_len ⟨Γ', S, q⟩
        · rw [q] at ok; exact ok.elim
      exact ⟨a, vs, rfl, h3.tup, by rw [← h2.len, hl, hi], g, Γ, S, xs, rel, rg, h2, ok⟩
    · exact ok.elim
def sAsg (t : EF) (gt : GF) : SF := fun Γ S => (t Γ S).st Γ fun v S1 => (gt v Γ S1).st Γ fun Γ1 S2 => .nx Γ1 S2
theorem asg_imp {gt : GF} (h : liftS X W (sAsg ta gt) D σ H) : tAsg (lift X W ta) (liftG X W gt) D σ H := by
  obtain ⟨g, Γ, S, rel, rg, ok⟩ := h
  refine ⟨g, Γ, S, rel, rg, OKw.mono (OKs.st rel rg ok) fun v S1 g1 H1 _ e1 h1 x rx => ?_⟩
  refine ⟨g1, Γ, S1, v, e1.rel, rg.up rel e1, rx, OKw.mono (OKs.st e1.rel (rg.up rel e1) h1) fun Γ2 S2 g2 H2 _ e2 h2 σ2 rg2 => h2 g2 H2 σ2 (Ext.refl e2.rel) rg2⟩
theorem St.asg {tg : Expr} {gt : GF} (he : E X W e ta) (hg : Tg X W tg gt) (hs : swapsWithSole [tg] e pos.line X.env = pure false := by rfl) (hw : swappedStores [tg] e X.env = pure none := by rfl)
    (h1 : (assignEach [tg] X.env).map (·.2) = [assign tg X.env] := by rfl) : St X W (.Assign [tg] e pos) (sAsg ta gt) :=
  ps_imp (ps_asg he hg hs hw h1) fun D σ H h => asg_imp h
/-- name = e -/
def sSet (i : Nat) (t : EF) : SF := fun Γ S => (t Γ S).st Γ fun v S1 => .nx (Γ.set i (some v)) S1
theorem set_imp {i : Nat} (h : liftS X W (sSet i ta) D σ H) : tAsg (lift X W ta) (gName i) D σ H := by
  obtain ⟨g, Γ, S, rel, rg, ok⟩ := h
  exact ⟨g, Γ, S, rel, rg, OKw.mono (OKs.st rel rg ok) fun v S1 g1 H1 _ e1 h1 x rx => h1 g1 H1 _ (Ext.refl e1.rel) ((rg.up rel e1).set rx)⟩
theorem St.set {i : Nat} {x : Str} {pos' : Pos} (h : ∀ {te : TE}, PE X e te → PS X (.Assign [.Name x pos'] e pos) (tAsg te (gName i))) (he : E X W e ta) : St X W (.Assign [.Name x pos'] e pos) (sSet i ta) :=
  ps_imp (h he) fun D σ H q => set_imp q
/-- name op= e, intsF -/
def sAug (i : Nat) (f : OF) (t : EF) : SF := fun Γ S => match Γ[i]? with
  | some (some p) => (t Γ S).st Γ fun q S1 => match f p q S1 with
    | some (v, S2) => .nx (Γ.set i (some v)) S2
    | none => .bad
  | _ => .bad
theorem aug_imp {i : Nat} {f : OF} {r : R2} (hf : OpF X r f) (h : liftS X W (sAug i f ta) D σ H) : tAug i (lift X W ta) r D σ H := by
  obtain ⟨g, Γ, S, rel, rg, ok⟩ := h
  unfold sAug at ok
  split at ok
  · rename_i p hp
    obtain ⟨x, h1, h2⟩ := rg.at_ i p hp
    refine ⟨x, h1, g, Γ, S, rel, rg, OKw.mono (OKs.st rel rg ok) fun q S1 g1 H1 _ e1 k1 y ry => ?_⟩
    cases hw : f p q S1 with
    | none => rw [hw] at k1; exact k1.elim
    | some z =>
      obtain ⟨w, S2⟩ := z
      rw [hw] at k1
      exact hf H1 g1 S1 p q x y w S2 _ e1.rel (RV.up rel e1 _ _ h2) ry hw fun g2 H2 z e2 rz => k1 g2 H2 _ e2 (((rg.up rel e1).up e1.rel e2).set rz)
  · exact ok.elim

/-! ### for, over what stands still -/
def forL (body : PV → SF) : List PV → SF
  | [], Γ, S => .nx Γ S
  | x :: xs, Γ, S => match body x Γ S with
    | .nx Γ1 S1 => forL body xs Γ1 S1
    | .ct Γ1 S1 => forL body xs Γ1 S1
    | .bk Γ1 S1 => .nx Γ1 S1
    | r => r
/-- what is walked, item by item: none: it is not a thing that may be walked; some none: the end -/
abbrev Stp := Sto → Nat → Option (Option PV)
def forI (st : Stp) (body : PV → SF) : Nat → Nat → SF
  | 0, _, _, _ => .bad
  | m + 1, i, Γ, S => match st S i with
    | none => .bad
    | some none => .nx Γ S
    | some (some x) => match body x Γ S with
      | .nx Γ1 S1 => forI st body m (i + 1) Γ1 S1
      | .ct Γ1 S1 => forI st body m (i + 1) Γ1 S1
      | .bk Γ1 S1 => .nx Γ1 S1
      | r => r
/-- a row that stands still -/
def stL (ps : List PV) : Stp := fun _ i => some ps[i]?
/-- a list that may change -/
def stR (n : Nat) : Stp := fun S i => match S[n]?.join with
  | some (.lst, xs) => some xs[i]?
  | _ => none
theorem forI_L {body : PV → SF} : ∀ (ps qs : List PV) (Γ : Gam) (S : Sto), forI (stL (qs ++ ps)) body (ps.length + 1) qs.length Γ S = forL body ps Γ S
  | [], qs, Γ, S => by
    simp only [List.append_nil, List.length_nil, forI, stL, forL]
    rw [List.getElem?_eq_none (Nat.le_refl _)]
  | p :: ps, qs, Γ, S => by
    have ih := fun Γ S => forI_L (body := body) ps (qs ++ [p]) Γ S
    simp only [List.append_assoc, List.singleton_append, List.length_append, List.length_singleton] at ih
    have e : (qs ++ p :: ps)[qs.length]? = some p := by
      rw [List.getElem?_append_right (Nat.le_refl _), Nat.sub_self] <;> rfl
    simp only [List.length_cons]
    rw [forI]
    simp only [stL] at ih ⊢
    rw [e]
    simp only [forL]
    cases body p Γ S <;> simp only [ih]
def sTurn (gt : GF) (t : SF) : PV → SF := fun p Γ S => (gt p Γ S).st Γ fun Γ1 S1 => t Γ1 S1
/-- one turn: the body's ends are the loop's -/
theorem turn_ok {gt : GF} {p : PV} {v : V} {k : SF} {N : L2.St → Hp → Prop} (rel : Rel X H g S) (rg : RG X H g S.length Γ σ) (rv : RV X H g S.length p v)
    (hN : ∀ g' H' σ' Γ' S', Ext X H g S H' g' S' → RG X H' g' S'.length Γ' σ' → OKs X W D H' g' S' (k Γ' S') → N σ' H')
    (ok : OKs X W D H g S (match sTurn gt t p Γ S with
      | .nx Γ1 S1 => k Γ1 S1
      | .ct Γ1 S1 => k Γ1 S1
      | .bk Γ1 S1 => .nx Γ1 S1
      | r => r)) : liftG X W gt v σ H fun σ2 H2 => liftS X W t { D with nx := N, ct := N, bk := D.nx } σ2 H2 := by
  refine ⟨g, Γ, S, p, rel, rg, rv, ?_⟩
  unfold sTurn at ok
  cases q : gt p Γ S with
  | bad => rw [q] at ok; exact ok.elim
  | ex c fs S1 =>
    rw [q] at ok
    exact fun g1 H1 cls d e1 rx => ok g1 H1 σ cls d e1 (rg.up rel e1) rx
  | ok Γ1 S1 =>
    rw [q] at ok
    intro g1 H1 e1 σ1 rg1
    refine ⟨g1, Γ1, S1, e1.rel, rg1, ?_⟩
    have ok : OKs X W D H g S (match t Γ1 S1 with
      | .nx Γ1 S1 => k Γ1 S1
      | .ct Γ1 S1 => k Γ1 S1
      | .bk Γ1 S1 => .nx Γ1 S1
      | r => r) := ok
    cases z : t Γ1 S1 with
    | nx Γ2 S2 =>
      rw [z] at ok
      exact fun g2 H2 σ2 e2 rg2 => hN g2 H2 σ2 Γ2 S2 (e1.trans e2) rg2 (OKs.cont (e1.trans e2) ok)
    | ct Γ2 S2 =>
      rw [z] at ok
      exact fun g2 H2 σ2 e2 rg2 => hN g2 H2 σ2 Γ2 S2 (e1.trans e2) rg2 (OKs.cont (e1.trans e2) ok)
    | bk Γ2 S2 =>
      rw [z] at ok
      exact fun g2 H2 σ2 e2 rg2 => ok g2 H2 σ2 (e1.trans e2) rg2
    | rt w S2 =>
      rw [z] at ok
      exact fun g2 H2 x e2 rx => ok g2 H2 x (e1.trans e2) rx
    | ex c fs Γ2 S2 =>
      rw [z] at ok
      exact fun g2 H2 σ2 cls d e2 rg2 rx => ok g2 H2 σ2 cls d (e1.trans e2) rg2 rx
    | bad => rw [z] at ok; exact ok.elim
/-- the walker J does what st says, from the state (H, g, S) on -/
def JOK (X : Kx) (J : It) (st : Stp) (H : Hp) (g : G) (S : Sto) : Prop := ∀ g' H' S' i, Ext X H g S H' g' S' →
  (∀ p, st S' i = some (some p) → J.go i H' ∧ ∀ x H2, J.yld i H' x H2 → ∃ g2, Ext X H' g' S' H2 g2 S' ∧ RV X H2 g2 S'.length p x) ∧ (st S' i = some none → J.stop i H')
theorem forI_ok {gt : GF} {J : It} {st : Stp} {n : Nat} (rel : Rel X H g S) (rg : RG X H g S.length Γ σ) (hJ : JOK X J st H g S) (ok : OKs X W D H g S (forI st (sTurn gt t) n 0 Γ S)) :
    ∃ Wv : Nat → Nat → L2.St → Hp → Prop, (∃ m, Wv 0 m σ H) ∧ ∀ i m σ H, Wv i m σ H →
      (J.stop i H ∧ D.nx σ H) ∨ (J.go i H ∧ ∃ N : L2.St → Hp → Prop, (∀ σ' H', N σ' H' → ∃ m', m' < m ∧ Wv (i + 1) m' σ' H') ∧ ∀ x H', J.yld i H x H' → liftG X W gt x σ H' fun σ2 H2 => liftS X W t { D with nx := N, ct := N, bk := D.nx } σ2 H2) := by
  refine ⟨fun i m σ1 H1 => ∃ g1 Γ1 S1, Ext X H g S H1 g1 S1 ∧ RG X H1 g1 S1.length Γ1 σ1 ∧ OKs X W D H1 g1 S1 (forI st (sTurn gt t) m i Γ1 S1), ⟨n, g, Γ, S, Ext.refl rel, rg, ok⟩, ?_⟩
  rintro i m σ1 H1 ⟨g1, Γ1, S1, e1, rg1, ok1⟩
  obtain ⟨j1, j2⟩ := hJ g1 H1 S1 i e1
  cases m with
  | zero => exact ok1.elim
  | succ m =>
    rw [forI] at ok1
    cases q : st S1 i with
    | none => rw [q] at ok1; exact ok1.elim
    | some z =>
      rw [q] at ok1
      cases z with
      | none => exact Or.inl ⟨j2 q, ok1 g1 H1 σ1 (Ext.refl e1.rel) rg1⟩
      | some p =>
        obtain ⟨j3, j4⟩ := j1 p q
        refine Or.inr ⟨j3, fun σ2 H2 => ∃ g2 Γ2 S2, Ext X H g S H2 g2 S2 ∧ RG X H2 g2 S2.length Γ2 σ2 ∧ OKs X W D H2 g2 S2 (forI st (sTurn gt t) m (i + 1) Γ2 S2), fun σ2 H2 h2 => ⟨m, Nat.lt_succ_self m, h2⟩, fun x H2 y => ?_⟩
        obtain ⟨g2, e2, rv⟩ := j4 x H2 y
        exact turn_ok (k := fun Γ S => forI st (sTurn gt t) m (i + 1) Γ S) e2.rel (rg1.up e1.rel e2) rv (fun g' H' σ' Γ' S' e' rg' ok' => ⟨g', Γ', S', (e1.trans e2).trans e', rg', ok'⟩) (OKs.cont e2 ok1)
/-! ### while -/
def whlN (c : BF) (t : SF) : Nat → SF
  | 0, _, _ => .bad
  | n + 1, Γ, S => (c Γ S).st Γ fun k S1 => if k = true then (match t Γ S1 with
      | .nx Γ2 S2 => whlN c t n Γ2 S2
      | .ct Γ2 S2 => whlN c t n Γ2 S2
      | .bk Γ2 S2 => .nx Γ2 S2
      | r => r) else .nx Γ S1
def fuel : Nat := 1000000000000
def sWhl (c : BF) (t : SF) : SF := whlN c t fuel
theorem St.whl {sa : BF} {body : List Stmt} (hp : PassesOwn (model X.prog X.w) X.A X.env X.xe) (hc : B X W c sa) (hb : Ss X W body t) : St X W (.While c body [] pos) (sWhl sa t) :=
  ps_imp (ps_while hp hc hb) fun D σ H ⟨g, Γ, S, rel, rg, ok⟩ => by
    refine ⟨fun m σ1 H1 => ∃ g1 Γ1 S1, Rel X H1 g1 S1 ∧ RG X H1 g1 S1.length Γ1 σ1 ∧ OKs X W D H1 g1 S1 (whlN sa t m Γ1 S1), ⟨fuel, g, Γ, S, rel, rg, ok⟩, ?_⟩
    rintro m σ1 H1 ⟨g1, Γ1, S1, rel1, rg1, ok1⟩
    cases m with
    | zero => exact ok1.elim
    | succ m =>
      refine ⟨g1, Γ1, S1, rel1, rg1, OKw.mono (OKs.st rel1 rg1 ok1) fun k S2 g2 H2 _ e2 h2 => ?_⟩
      cases k with
      | false => rw [if_neg Bool.false_ne_true] at h2 ⊢; exact h2 g2 H2 σ1 (Ext.refl e2.rel) (rg1.up rel1 e2)
      | true =>
        rw [if_pos rfl] at h2 ⊢
        refine ⟨fun σ3 H3 => ∃ g3 Γ3 S3, Rel X H3 g3 S3 ∧ RG X H3 g3 S3.length Γ3 σ3 ∧ OKs X W D H3 g3 S3 (whlN sa t m Γ3 S3), fun σ3 H3 h3 => ⟨m, Nat.lt_succ_self m, h3⟩, g2, Γ1, S2, e2.rel, rg1.up rel1 e2, ?_⟩
        cases z : t Γ1 S2 with
        | nx Γ3 S3 => rw [z] at h2; exact fun g3 H3 σ3 e3 rg3 => ⟨g3, Γ3, S3, e3.rel, rg3, OKs.cont e3 h2⟩
        | ct Γ3 S3 => rw [z] at h2; exact fun g3 H3 σ3 e3 rg3 => ⟨g3, Γ3, S3, e3.rel, rg3, OKs.cont e3 h2⟩
        | bk Γ3 S3 => rw [z] at h2; exact h2
        | rt v S3 => rw [z] at h2; exact h2
        | ex c fs Γ3 S3 => rw [z] at h2; exact h2
        | bad => rw [z] at h2; exact h2.elim
/-! ### what may be walked -/
def strs1 (z : Str) : List PV := z.cps.toList.map fun c => .str ⟨#[c]⟩
def intsF (lo : Int) (n : Nat) : List PV := (List.range n).map fun i => .int (lo + (i : Nat))
abbrev IF := Gam → Sto → R (Stp × Nat)
def SrcOK (X : Cx) (W : WX) (wi : TI) (it : IF) : Prop := ∀ (σ : L2.St) (H : Hp) (g : G) (Γ : Gam) (S : Sto) (Rr : It → Hp → Prop), Rel X H g S → RG X H g S.length Γ σ →
  OKw X W σ H g S (it Γ S) (fun q S1 g1 H1 => ∀ J, JOK X J q.1 H1 g1 S1 → Rr J H1) → wi σ H Rr
/-- iter walks as it says -/
def I (X : Cx) (W : WX) (tg iter : Expr) (it : IF) : Prop := ∃ wi, PI X tg iter wi ∧ SrcOK X W wi it
def sFor (it : IF) (gt : GF) (t : SF) : SF := fun Γ S => (it Γ S).st Γ fun q S1 => forI q.1 (sTurn gt t) q.2 0 Γ S1
variable {tg : Expr} {gt : GF} {body : List Stmt} {tn : AF} {it : IF} {iter : Expr}
theorem St.for (hp : PassesOwn (model X.prog X.w) X.A X.env X.xe) (hc : X.calm = true) (hi : I X W tg iter it) (ht : Tg X W tg gt) (hb : Ss X W body t) (hf : ∀ x, foldedSetIterable iter X.env x = pure x := by intro _; rfl) :
    St X W (.For tg iter body [] pos) (sFor it gt t) := by
  obtain ⟨wi, pi, src⟩ := hi
  refine ps_imp (ps_for hp hc pi ht hb hf) fun D σ H ⟨g, Γ, S, rel, rg, ok⟩ => ?_
  exact src σ H g Γ S _ rel rg (OKw.mono (OKs.st rel rg ok) fun q S1 g1 H1 _ e1 h1 J hJ => forI_ok e1.rel (rg.up rel e1) hJ h1)
theorem jok_L {J : It} {ps : List PV} {vs : List V} (rel : Rel X H g S) (rv : RVs X H g S.length ps vs)
    (hJ : ∀ H' i, (∀ x, vs[i]? = some x → J.go i H' ∧ ∀ y H2, J.yld i H' y H2 → y = x ∧ H2 = H') ∧ (vs.length ≤ i → J.stop i H')) : JOK X J (stL ps) H g S := by
  intro g' H' S' i e
  refine ⟨fun p q => ?_, fun q => ?_⟩
  · obtain ⟨x, q1, q2⟩ := rv.get (i := i) (p := p) (Option.some.inj q)
    obtain ⟨j1, j2⟩ := (hJ H' i).1 x q1
    refine ⟨j1, fun y H2 z => ?_⟩
    obtain ⟨rfl, rfl⟩ := j2 y H2 z
    exact ⟨g', Ext.refl e.rel, RV.up rel e _ _ q2⟩
  · have q : ps[i]? = none := Option.some.inj q
    exact (hJ H' i).2 (by rw [← rv.len]; exact List.getElem?_eq_none_iff.mp q)
theorem RVs.ofints {Y : Kx} {L : Nat} {lo : Int} {n : Nat} : RVs Y H g L (intsF lo n) ((List.range n).map fun i => V.int (lo + (i : Nat))) := by
  unfold intsF
  generalize List.range n = l
  induction l with
  | nil => exact RVs.nil
  | cons i l ih => exact RVs.cons RV.int ih
theorem jok_r {lo : Int} {n : Nat} (rel : Rel X H g S) : JOK X (Itr lo n) (stL (intsF lo n)) H g S :=
  jok_L rel RVs.ofints fun H' i => ⟨fun x h => by
    rw [List.getElem?_map] at h
    obtain ⟨j, h1, h2⟩ := Option.map_eq_some_iff.mp h
    have hi := (List.getElem?_eq_some_iff.mp h1).1
    rw [List.length_range] at hi
    rw [List.getElem?_range hi] at h1
    cases h1
    exact ⟨hi, fun y H2 z => ⟨z.2.trans h2, z.1⟩⟩, fun h => by
    rw [List.length_map, List.length_range] at h
    exact h⟩
def iR1 (tn : AF) : IF := fun Γ S => (tn Γ S).bind fun ps S1 => match ps with
  | [.int n] => if -(2 ^ 62) ≤ n ∧ n < 2 ^ 62 then .ok (stL (intsF 0 n.toNat), n.toNat + 1) S1 else .bad
  | _ => .bad
def iR2 (tn : AF) : IF := fun Γ S => (tn Γ S).bind fun ps S1 => match ps with
  | [.int i, .int j] => if -(2 ^ 62) ≤ i ∧ i < 2 ^ 62 ∧ -(2 ^ 62) ≤ j ∧ j < 2 ^ 62 then .ok (stL (intsF i (j - i).toNat), (j - i).toNat + 1) S1 else .bad
  | _ => .bad
theorem I.r1 {p : Pos} (hg : Gl X "range") (hm : X.mg "range" = none) (ha : A X W [a] tn) (hs : starEach [a] X.env = [(false, eval a X.env)] := by rfl) : I X W tg (.Call (.Name "range" p) [a] [] pos) (iR1 tn) :=
  ⟨_, pi_range1 hg hm ha hs, fun σ H g Γ S Rr rel rg ok => ⟨g, Γ, S, rel, rg, OKw.mono (OKw.bind ok) fun ps S1 g1 H1 _ e1 h1 xs rxs => by
    split at h1
    · rename_i n _
      simp only [RVs, RV] at rxs
      obtain ⟨v, r, rfl, rfl, rfl⟩ := rxs
      split at h1
      · rename_i hn
        exact ⟨n, rfl, hn.1, hn.2, OKw.ok e1.rel h1 _ (jok_r e1.rel)⟩
      · exact h1.elim
    · exact h1.elim⟩⟩
theorem I.r2 {p : Pos} (hg : Gl X "range") (hm : X.mg "range" = none) (ha : A X W [a, b] tn) (hs : starEach [a, b] X.env = [(false, eval a X.env), (false, eval b X.env)] := by rfl) (hs2 : starEach [b] X.env = [(false, eval b X.env)] := by rfl) :
    I X W tg (.Call (.Name "range" p) [a, b] [] pos) (iR2 tn) :=
  ⟨_, pi_range2 hg hm ha hs hs2, fun σ H g Γ S Rr rel rg ok => ⟨g, Γ, S, rel, rg, OKw.mono (OKw.bind ok) fun ps S1 g1 H1 _ e1 h1 xs rxs => by
    split at h1
    · rename_i i j _
      simp only [RVs, RV] at rxs
      obtain ⟨v, r, rfl, rfl, v2, r2, rfl, rfl, rfl⟩ := rxs
      split at h1
      · rename_i hn
        exact ⟨i, j, rfl, hn, OKw.ok e1.rel h1 _ (jok_r e1.rel)⟩
      · exact h1.elim
    · exact h1.elim⟩⟩
end
end Pv

/-! Pv6: defs of data: promises by functions, calls, bodies. -/
namespace Pv
open PySem PySem.Spec PyProof.Rows L2

/-! ### data without changing or lent parts -/
mutual
def clean : PV → Bool
  | .con .lent _ _ => false
  | .con _ _ xs => cleans xs
  | .ref _ => false
  | _ => true
def cleans : List PV → Bool
  | [] => true
  | x :: xs => clean x && cleans xs
end
inductive RP where
  | ok (v : PV) | ex (c : Str) (fs : List (Str × PV)) | bad
/-- a local value handed out: what changed until now stands for good -/
def frzV : Nat → Sto → PV → Option PV
  | 0, _, p => if clean p = true then some p else none
  | n + 1, S, p => if clean p = true then some p else match p with
    | .con .own k xs => (xs.mapM (frzV n S)).map (.con .own k)
    | .con .out k xs => (xs.mapM (frzV n S)).map (.con .out k)
    | .ref i => match S[i]?.join with
      | some (k, xs) => (xs.mapM (frzV n S)).map (.con .own k)
      | none => none
    | _ => none
/-- a value lent to a callee -/
def lendV (S : Sto) (p : PV) : Option PV := if clean p = true then some p else match p with
  | .con .lent k xs => if cleans xs = true then some (.con .lent k xs) else none
  | .ref i => match S[i]?.join with
    | some (k, xs) => if cleans xs = true then some (.con .lent k xs) else none
    | none => none
  | _ => none
def resP (S : Sto) (p : PV) : RP := match frzV 9 S p with
  | some q => .ok q
  | none => .bad
/-- a def of np parameters and n slots, as a function of data -/
def runP (np n : Nat) (body : SF) (args : List PV) : RP := if args.length = np then (match body (args.map some ++ List.replicate (n - args.length) none) [] with
  | .nx _ _ => .ok .non
  | .rt v S => resP S v
  | .ex c fs _ S => if cleans (fs.map (·.2)) = true then .ex c fs else .bad
  | _ => .bad) else .bad
section
variable {Y : Kx} {H H' H'' : Hp} {g g' g'' : G} {S S' S'' : Sto} {L L' : Nat}
structure CUp (H : Hp) (g : G) (H' : Hp) (g' : G) : Prop where
  keep : ∀ a o, H a = some o → (Mut (some o) → g.F a) → H' a = some o
  fr : ∀ a, g.F a → g'.F a
mutual
theorem RV.clean (u : CUp H g H' g') : ∀ (p : PV) (v : V), clean p = true → RV Y H g L p v → RV Y H' g' L' p v
  | .non, _, _, h => h
  | .bl _, _, _, h => h
  | .int _, _, _, h => h
  | .str _, _, _, h => h
  | .fn _, _, _, h => h
  | .ty _, _, _, h => h
  | .ref n, v, c, _ => by simp [Pv.clean] at c
  | .con .lent k xs, v, c, _ => by simp [Pv.clean] at c
  | .con .own k xs, v, c, h => by
    simp only [Pv.clean] at c
    simp only [RV] at h ⊢
    obtain ⟨a, vs, h1, ⟨o, h2, h3, h4⟩, h5⟩ := h
    exact ⟨a, vs, h1, ⟨o, h2, u.keep a o h3 h4, fun z => u.fr a (h4 z)⟩, RVs.clean u xs vs c h5⟩
  | .con .out k xs, v, c, h => by
    simp only [Pv.clean] at c
    simp only [RV] at h ⊢
    obtain ⟨a, vs, h1, h2, h5⟩ := h
    refine ⟨a, vs, h1, ?_, RVs.clean u xs vs c h5⟩
    rcases h2 with ⟨ob, o, q1, q2⟩ | h2
    · exact Or.inl ⟨ob, o, q1, u.keep a _ q2 fun z => False.elim z⟩
    · exact Or.inr h2
theorem RVs.clean (u : CUp H g H' g') : ∀ (p : List PV) (v : List V), cleans p = true → RVs Y H g L p v → RVs Y H' g' L' p v
  | [], _, _, h => h
  | x :: xs, vs, c, h => by
    simp only [Pv.cleans, Bool.and_eq_true] at c
    simp only [RVs] at h ⊢
    obtain ⟨v, r, h1, h2, h3⟩ := h
    exact ⟨v, r, h1, RV.clean u x v c.1 h2, RVs.clean u xs r c.2 h3⟩
end
theorem mapM_rv {f : PV → Option PV} (hf : ∀ p x q, RV Y H g L p x → f p = some q → RV Y H' g' L' q x) : ∀ {xs ys : List PV} {vs : List V}, RVs Y H g L xs vs → xs.mapM f = some ys → RVs Y H' g' L' ys vs
  | [], ys, vs, h, e => by
    simp only [RVs] at h
    subst h
    simp at e
    subst e
    exact RVs.nil
  | x :: xs, ys, vs, h, e => by
    simp only [RVs] at h
    obtain ⟨v, r, rfl, h2, h3⟩ := h
    simp only [List.mapM_cons, Option.bind_eq_bind, Option.bind_eq_some_iff, Option.pure_def, Option.some.injEq] at e
    obtain ⟨d, e1, es, e2, rfl⟩ := e
    exact RVs.cons (hf x v d h2 e1) (mapM_rv hf h3 e2)
/-- what stands for good behind a def: what did, and its own objects -/
def endF (g : G) (S : Sto) : Addr → Prop := fun a => g.F a ∨ ∃ n, Al S n ∧ g.r n = a
def Gp (F : Addr → Prop) : G := ⟨F, fun _ => False, fun _ => 0⟩
theorem frzV_ok (rel : Rel Y H g S) : ∀ (n : Nat) (p : PV) (x : V) (q : PV), RV Y H g S.length p x → frzV n S p = some q → RV Y H (Gp (endF g S)) 0 q x
  | 0, p, x, q, h, e => by
    unfold frzV at e
    split at e
    · rename_i c
      cases e
      exact RV.clean ⟨fun _ _ h _ => h, fun _ h => Or.inl h⟩ p x c h
    · cases e
  | n + 1, p, x, q, h, e => by
    unfold frzV at e
    split at e
    · rename_i c
      cases e
      exact RV.clean ⟨fun _ _ h _ => h, fun _ h => Or.inl h⟩ p x c h
    · split at e
      · simp only [Option.map_eq_some_iff] at e
        obtain ⟨ys, e, rfl⟩ := e
        simp only [RV] at h ⊢
        obtain ⟨a, vs, h1, ⟨o, h2, h3, h4⟩, h5⟩ := h
        exact ⟨a, vs, h1, ⟨o, h2, h3, fun z => Or.inl (h4 z)⟩, mapM_rv (frzV_ok rel n) h5 e⟩
      · simp only [Option.map_eq_some_iff] at e
        obtain ⟨ys, e, rfl⟩ := e
        simp only [RV] at h ⊢
        obtain ⟨a, vs, h1, h2, h5⟩ := h
        exact ⟨a, vs, h1, h2, mapM_rv (frzV_ok rel n) h5 e⟩
      · split at e
        · rename_i i _ _ k xs ej
          simp only [Option.map_eq_some_iff] at e
          obtain ⟨ys, e, rfl⟩ := e
          have hn := join_some ej
          obtain ⟨o, vs, q1, q2, q3, q4⟩ := rel.ob i k xs hn
          simp only [RV] at h ⊢
          exact ⟨_, vs, h.2, ⟨o, q2, q1, fun _ => Or.inr ⟨i, ⟨_, hn⟩, rfl⟩⟩, mapM_rv (frzV_ok rel n) q4 e⟩
        · cases e
      · cases e
def lendG (g : G) (S : Sto) : G := ⟨g.F, fun a => g.T a ∨ ∃ n, Al S n ∧ g.r n = a, fun _ => 0⟩
theorem lendV_ok (rel : Rel Y H g S) {p : PV} {x : V} {q : PV} (h : RV Y H g S.length p x) (e : lendV S p = some q) : RV Y H (lendG g S) 0 q x := by
  have cu : CUp H g H (lendG g S) := ⟨fun _ _ h _ => h, fun _ h => h⟩
  unfold lendV at e
  split at e
  · rename_i c
    cases e
    exact RV.clean cu p x c h
  · split at e
    · split at e
      · rename_i c
        cases e
        simp only [RV] at h ⊢
        obtain ⟨a, vs, h1, ⟨o, h2, h3, h4⟩, h5⟩ := h
        exact ⟨a, vs, h1, ⟨o, h2, h3, fun z => Or.inl (h4 z)⟩, RVs.clean cu _ _ c h5⟩
      · cases e
    · split at e
      · rename_i i _ _ k xs ej
        split at e
        · rename_i c
          cases e
          have hn := join_some ej
          obtain ⟨o, vs, q1, q2, q3, q4⟩ := rel.ob i k xs hn
          simp only [RV] at h ⊢
          exact ⟨_, vs, h.2, ⟨o, q2, q1, fun _ => Or.inr ⟨i, ⟨_, hn⟩, rfl⟩⟩, RVs.clean cu _ _ c q4⟩
        · cases e
      · cases e
    · cases e

/-! ### a promise by a function of data -/
structure Gro (H : Hp) (g : G) (H' : Hp) (F' : Addr → Prop) : Prop where
  fr : ∀ a, g.F a → F' a
  keep : ∀ a o, H a = some o → H' a = some o
  tr : ∀ a, F' a → ∃ o, H' a = some o
  new : ∀ a, F' a → g.F a ∨ H a = none
def OKp (Y : Kx) (H : Hp) (g : G) (r : RP) (Q : VK) (E : XK) : Prop := match r with
  | .ok v => ∀ H' F' x, Gro H g H' F' → RV Y H' (Gp F') 0 v x → Q x H'
  | .ex c fs => ∀ H' F' cls d, Gro H g H' F' → RX Y H' (Gp F') 0 c fs cls d → E cls d H'
  | .bad => False
def spP (Y : Kx) (f : List PV → RP) : Sp := fun vs H Q E => ∃ (g : G) (ps : List PV), RVs Y H g 0 ps vs ∧ (∀ a, g.F a ∨ g.T a → ∃ o, H a = some o) ∧ OKp Y H g (f ps) Q E
/-- a def that may be called by its name -/
structure Cal (P : Program) (w : World) (K : PySem.W.Frag) (mg : Str → Option Value) (base : Heap) (k : Nat) (x : Str) (sp : Sp) : Prop where
  ex : ∃ (f : Addr) (fd : FuncData) (ps : List Str), FnOk P w K mg base (L2.CX P w) k f fd ps sp ∧ mg x = some (.ref f) ∧ PySem.W.keepIn K (.ref f) = true ∧ Binds K fd ps []
end
def eCallP (f : List PV → RP) (t : AF) : EF := fun Γ S => (t Γ S).bind fun ps S1 => match ps.mapM (lendV S1) with
  | some qs => match f qs with
    | .ok v => .ok v S1
    | .ex c fs => .ex c fs S1
    | .bad => .bad
  | none => .bad
section
variable {X : Cx} {H H' H'' : Hp} {g g' g'' : G} {S S' S'' : Sto} {W : WX} {a b c e o : Expr} {es rest : List Expr} {ta tb tc to : EF} {tr : AF} {pos p : Pos} {Γ : Gam} {σ : L2.St} {x : Str} {k j : Nat} {f : List PV → RP}
theorem Gro.ext {F' : Addr → Prop} (rel : Rel X H g S) (u : Gro H (lendG g S) H' F') : Ext X H g S H' ⟨F', g.T, g.r⟩ S := by
  have up : Up H g S.length H' ⟨F', g.T, g.r⟩ S.length := ⟨fun a o h _ => u.keep a o h, fun a h => u.fr a h, fun _ h => h, fun _ _ => rfl, Nat.le_refl _⟩
  refine ⟨⟨fun n k xs e => ?_, rel.inj, fun n hn z => ?_, rel.fT, fun a z => ?_⟩, fun a o h _ => u.keep a o h, fun n hn => Or.inl ⟨hn, rfl⟩, fun _ _ => rfl, Nat.le_refl _, fun a h => u.fr a h, rfl, fun a o h => ⟨o, u.keep a o h⟩, fun a h => (u.new a h).elim Or.inl fun z => Or.inr (Or.inl z)⟩
  · obtain ⟨o, vs, h1, h2, h3, h4⟩ := rel.ob n k xs e
    exact ⟨o, vs, u.keep _ _ h1, h2, h3, RVs.mono up _ _ h4⟩
  · rcases u.new _ z with z | z
    · exact rel.fF n hn z
    · obtain ⟨o, q⟩ := rel.tracked hn
      have z : H (g.r n) = none := z
      rw [q] at z; cases z
  · rcases z with z | z
    · exact u.tr a z
    · obtain ⟨o, q⟩ := rel.tr a (Or.inr z)
      exact ⟨o, u.keep a o q⟩
theorem RX.mono {Y : Kx} {L L' : Nat} {c : Str} {fs : List (Str × PV)} {cls : Value} {d : Option Addr} (u : Up H g L H' g' L') (h : RX Y H g L c fs cls d) : RX Y H' g' L' c fs cls d := by
  obtain ⟨h1, h2⟩ := h
  refine ⟨h1, ?_⟩
  rcases h2 with h2 | ⟨dx, vs, q1, q2, q3⟩
  · exact Or.inl h2
  · exact Or.inr ⟨dx, vs, q1, u.keep _ _ q2 fun z => False.elim z, RVs.mono u _ _ q3⟩
theorem callP_imp {σ : L2.St} {H : Hp} {Q : VK} (h : lift X W (eCallP f tr) σ H Q) : tCallS (spP X f) (WE W) (liftA X W tr) σ H Q := by
  obtain ⟨g, Γ, S, rel, rg, ok⟩ := h
  refine ⟨g, Γ, S, rel, rg, OKw.mono (OKw.bind ok) fun ps S1 g1 H1 _ e1 h1 xs rxs => ?_⟩
  split at h1
  · rename_i qs eq
    refine ⟨lendG g1 S1, qs, mapM_rv (fun p x q h e => lendV_ok e1.rel h e) rxs eq, fun a z => ?_, ?_⟩
    · rcases z with z | z | ⟨n, hn, rfl⟩
      · exact e1.rel.tr a (Or.inl z)
      · exact e1.rel.tr a (Or.inr z)
      · exact e1.rel.tracked hn
    · have cu : ∀ {H' : Hp} {F' : Addr → Prop}, Up H' (Gp F') 0 H' ⟨F', g1.T, g1.r⟩ S1.length := fun {H' F'} => ⟨fun _ _ h _ => h, fun _ h => h, fun _ h => False.elim h, fun n h => absurd h (Nat.not_lt_zero n), Nat.zero_le _⟩
      split at h1
      · rename_i v ev
        rw [ev]
        exact fun H' F' x u rv => h1 _ _ (u.ext e1.rel) x (RV.mono cu _ _ rv)
      · rename_i c fs ev
        rw [ev]
        exact fun H' F' cls d u rx => h1 _ _ cls d (u.ext e1.rel) (rx.mono cu)
      · exact h1.elim
  · exact h1.elim
theorem E.call (c : Cal X.prog X.w X.K X.mg X.base k x (spP X f)) (hr : Room j X.A) (tk : Takes X W) (hg : Gl X x) (ha : A X W (e :: es) tr) (hk : k ≤ j := by decide)
    (hdb : (x == ("__debug__" : Str)) = false := by decide) (he : starEach (e :: es) X.env = (false, eval e X.env) :: starEach es X.env := by rfl) (hpl : (backTo pos (starEach es X.env)).any (·.1) = false := by rfl) :
    E X W (.Call (.Name x p) (e :: es) [] pos) (eCallP f tr) := by
  obtain ⟨fa, fd, ps, F, hm, kp, b⟩ := c.ex
  exact pe_imp (pe_callS F (hr.mono hk) hg hm kp b (passAt tk) ha hdb he hpl) fun _ _ _ h => callP_imp h
end

/-! ### a def's body -/
/-- what is known within a def's body -/
structure Body (X : Cx) (W : WX) (N : List Str) (sc : Scope) (k : Nat) : Prop where
  hN : X.N = N
  sc : X.env.scope = sc
  calm : X.calm = true
  fn : ∀ x, X.fn x = true
  room : Room k X.A
  tk : Takes X W
  po : PassesOwn (model X.prog X.w) X.A X.env X.xe
  hs : X.stack = X.env :: X.outer
  hf : X.env.frame = some X.env.locals
section
variable {P : Program} {w : World} {K : PySem.W.Frag} {mg : Str → Option Value} {base : Heap}
theorem start_rg {Y : Kx} {H : Hp} {g : G} {L n : Nat} {ps : List PV} {vs : List V} {N : List Str} (h : RVs Y H g L ps vs) : RG Y H g L (ps.map some ++ List.replicate (N.length - ps.length) none) (L2.start N vs) := by
  have hl := h.len
  refine ⟨by unfold L2.start; simp [hl], fun i p e => ?_⟩
  unfold L2.start
  by_cases hi : i < ps.length
  · rw [List.getElem?_append_left (by simpa using hi), List.getElem?_map] at e
    obtain ⟨q, e1, e2⟩ := Option.map_eq_some_iff.mp e
    cases e2
    obtain ⟨v, q1, q2⟩ := h.get e1
    exact ⟨v, by rw [List.getElem?_append_left (by simpa [hl] using hi), List.getElem?_map, q1] <;> rfl, q2⟩
  · rw [List.getElem?_append_right (by simpa using hi)] at e
    rw [List.getElem?_replicate] at e
    split at e <;> cases e
theorem fnP {x qual : Str} {st : Stmt} {dvs : List V} {kws : List (Str × V)} {f : Addr} {fd : FuncData} {N ps : List Str} {k np n : Nat} {body : SF} (F : FunD K x qual (defArgs st) (defBody st) (defScope st) dvs kws f fd) (S : FnScope N ps (defScope st)) (hnp : ps.length = np) (hn : N.length = n)
    (hbody : ∀ (X : Cx) (W : WX), X.prog = P → X.w = w → X.K = K → X.mg = mg → X.base = base → Body X W N (defScope st) k → Ss X W (defBody st) body) : FnOk P w K mg base (L2.CX P w) (k + 1) f fd ps (spP ⟨K, mg⟩ (runP np n body)) := by
  refine F.ok S (fun vs H Q E ⟨g, qs, h1, h2, h3⟩ => ?_) (fun cdv A outer s H vs Q E hr ⟨g, qs, h1, h2, h3⟩ => ?_)
  · unfold runP at h3
    split at h3
    · rename_i e
      rw [← h1.len, e, hnp]
    · exact h3.elim
  · unfold runP at h3
    split at h3
    · rename_i elen
      subst hn
      let X := cxOf (L2.CX P w) P w K mg base N qual (defScope st) f cdv A outer s H E
      have tk : Takes X (fun cls d _ H => E cls d H) := takes_of rfl rfl rfl rfl
      have hb := hbody X (fun cls d _ H => E cls d H) rfl rfl rfl rfl rfl ⟨rfl, rfl, rfl, fun _ => rfl, hr, tk, passes_of rfl, rfl, rfl⟩
      refine ⟨_, hb, g, _, [], ⟨fun n k xs e => by simp at e, fun n m ⟨_, hn⟩ => by simp at hn, fun n ⟨_, hn⟩ => by simp at hn, fun n ⟨_, hn⟩ => by simp at hn, h2⟩, start_rg (n := 0) h1, ?_⟩
      have gro : ∀ {H' : Hp} {g' : G} {S' : Sto}, Ext ⟨K, mg⟩ H g [] H' g' S' → Gro H g H' (endF g' S') := fun {H' g' S'} e => by
        refine ⟨fun a h => Or.inl (e.fr a h), fun a o h => e.frame a o h fun n ⟨_, hn⟩ => by simp at hn, fun a h => ?_, fun a h => ?_⟩
        · rcases h with h | ⟨n, hn, rfl⟩
          · exact e.rel.tr a (Or.inl h)
          · exact e.rel.tracked hn
        · rcases h with h | ⟨n, hn, rfl⟩
          · rcases e.nf a h with z | z | ⟨n, ⟨_, q⟩, _⟩
            · exact Or.inl z
            · exact Or.inr z
            · simp at q
          · rcases e.old n hn with ⟨⟨_, q⟩, _⟩ | q
            · simp at q
            · exact Or.inr q
      have cu : ∀ {H' : Hp} {g' : G} {S' : Sto}, CUp H' g' H' (Gp (endF g' S')) := fun {H' g' S'} => ⟨fun _ _ h _ => h, fun _ h => Or.inl h⟩
      generalize eb : body (qs.map some ++ List.replicate (N.length - qs.length) none) [] = r at h3
      cases r with
      | nx Γ' S' => exact fun g' H' σ' e1 _ => h3 H' _ .non (gro e1) RV.non
      | rt v S' =>
        intro g' H' x e1 rv
        have h3 : OKp ⟨K, mg⟩ H g (resP S' v) Q E := h3
        unfold resP at h3
        split at h3
        · rename_i q eq
          exact h3 H' _ x (gro e1) (frzV_ok e1.rel 9 v x q rv eq)
        · exact h3.elim
      | ex c fs Γ' S' =>
        intro g' H' σ' cls d e1 _ rx
        have h3 : OKp ⟨K, mg⟩ H g (if cleans (fs.map (·.2)) = true then .ex c fs else .bad) Q E := h3
        split at h3
        · rename_i cl
          refine h3 H' _ cls d (gro e1) ?_
          obtain ⟨q1, q2⟩ := rx
          refine ⟨q1, ?_⟩
          rcases q2 with q2 | ⟨dx, vs, z1, z2, z3⟩
          · exact Or.inl q2
          · exact Or.inr ⟨dx, vs, z1, z2, RVs.clean cu _ _ cl z3⟩
        · exact h3.elim
      | bk Γ' S' => exact h3.elim
      | ct Γ' S' => exact h3.elim
      | bad => exact h3.elim
    · exact h3.elim
theorem Cal.mkP {x qual : Str} {st : Stmt} {dvs : List V} {kws : List (Str × V)} {f : Addr} {fd : FuncData} {N ps : List Str} {k np n : Nat} {body : SF} (F : FunD K x qual (defArgs st) (defBody st) (defScope st) dvs kws f fd) (hm : mg x = some (.ref f)) (S : FnScope N ps (defScope st)) (b : Binds K fd ps []) (hnp : ps.length = np) (hn : N.length = n)
    (hbody : ∀ (X : Cx) (W : WX), X.prog = P → X.w = w → X.K = K → X.mg = mg → X.base = base → Body X W N (defScope st) k → Ss X W (defBody st) body) : Cal P w K mg base (k + 1) x (spP ⟨K, mg⟩ (runP np n body)) :=
  ⟨f, fd, ps, fnP F S hnp hn hbody, hm, F.kp, b⟩
end
end Pv

/-! Pv7: walks over lists, tuples, texts; comprehensions; defs that change what they are handed; lists changed. -/
namespace Pv
open PySem PySem.Spec PyProof.Rows L2
section
variable {X : Cx} {H H' H'' H0 : Hp} {g g' g'' g0 : G} {S S' S'' S0 : Sto} {W : WX} {a b c e o l tg elt : Expr} {es rest ifs : List Expr} {ta tb tc to te : EF} {tr : AF} {pos p apos cpos : Pos} {Γ : Gam} {σ : L2.St} {x : Str} {k j : Nat}

/-! ### walks -/
def walkB (S : Sto) : PV → Option (Stp × Nat)
  | .con _ .lst xs => some (stL xs, xs.length + 1)
  | .ref n => match S[n]?.join with
    | some (.lst, xs) => some (stR n, xs.length + 1)
    | _ => none
  | _ => none
def iL (t : EF) : IF := fun Γ S => (t Γ S).bind fun p S1 => match walkB S1 p with
  | some q => .ok q S1
  | none => .bad
def iT (t : EF) : IF := fun Γ S => (t Γ S).bind fun p S1 => match p with
  | .con _ .tup xs => .ok (stL xs, xs.length + 1) S1
  | _ => .bad
def iS (t : EF) : IF := fun Γ S => (t Γ S).bind fun p S1 => match p with
  | .str z => .ok (stL (strs1 z), z.cps.toList.length + 1) S1
  | _ => .bad
theorem walk_lst {Y : Kx} {p : PV} {v : V} {q : Stp × Nat} (rel : Rel Y H g S) (rv : RV Y H g S.length p v) (h : walkB S p = some q) : ∃ a, v = .ref a ∧ (∃ vs, SqL Y.K H a vs) ∧ JOK Y (Itl Y.K a) q.1 H g S := by
  cases p with
  | con m k xs =>
    cases k with
    | lst =>
      cases h
      have rv0 := rv
      simp only [RV] at rv
      obtain ⟨a, vs, rfl, h2, h3⟩ := rv
      refine ⟨a, rfl, ⟨vs, h2.rdd.lst⟩, fun g' H' S' i e => ?_⟩
      have rv2 := RV.up rel e _ _ rv0
      simp only [RV] at rv2
      obtain ⟨b, ws, eb, q2, q3⟩ := rv2
      cases eb
      have sq := q2.rdd.lst
      refine ⟨fun p hp => ?_, fun hp => ?_⟩
      · obtain ⟨y, z1, z2⟩ := q3.get (i := i) (p := p) (Option.some.inj hp)
        exact ⟨⟨ws, y, sq, z1⟩, fun u H2 ⟨u1, u2⟩ => by
          subst u1
          have := u2 ws sq
          rw [z1] at this; cases this
          exact ⟨g', Ext.refl e.rel, z2⟩⟩
      · exact ⟨ws, sq, by rw [← q3.len]; exact List.getElem?_eq_none_iff.mp (Option.some.inj hp)⟩
    | _ => cases h
  | ref n =>
    simp only [walkB] at h
    split at h
    · rename_i xs ej
      cases h
      have hn := join_some ej
      obtain ⟨o, vs, h1, h2, _, h4⟩ := rel.ob n _ _ hn
      simp only [RV] at rv
      obtain ⟨hl, rfl⟩ := rv
      cases h2
      refine ⟨_, rfl, ⟨vs, SqL.of h1⟩, fun g' H' S' i e => ?_⟩
      have hr : g'.r n = g.r n := e.rho n hl
      have get : ∀ z, stR n S' i = some z → ∃ ys ws, S'[n]? = some (some (.lst, ys)) ∧ H' (g.r n) = some (.lst ws) ∧ RVs Y H' g' S'.length ys ws ∧ z = ys[i]? := fun z hz => by
        unfold stR at hz
        split at hz
        · rename_i ys ej2
          have hn2 := join_some ej2
          obtain ⟨o, ws, z1, z2, _, z4⟩ := e.rel.ob n _ _ hn2
          cases z2
          rw [hr] at z1
          cases hz
          exact ⟨ys, ws, hn2, z1, z4, rfl⟩
        · cases hz
      refine ⟨fun p hp => ?_, fun hp => ?_⟩
      · obtain ⟨ys, ws, _, z1, z4, z5⟩ := get _ hp
        obtain ⟨y, u1, u2⟩ := z4.get (i := i) (p := p) z5.symm
        exact ⟨⟨ws, y, SqL.of z1, u1⟩, fun u H2 ⟨w1, w2⟩ => by
          subst w1
          have := w2 ws (SqL.of z1)
          rw [u1] at this; cases this
          exact ⟨g', Ext.refl e.rel, u2⟩⟩
      · obtain ⟨ys, ws, _, z1, z4, z5⟩ := get _ hp
        exact ⟨ws, SqL.of z1, by rw [← z4.len]; exact List.getElem?_eq_none_iff.mp z5.symm⟩
    · cases h
  | non => cases h
  | bl _ => cases h
  | int _ => cases h
  | str _ => cases h
  | fn _ => cases h
  | ty _ => cases h
theorem I.lst (hl : E X W l ta) : I X W tg l (iL ta) :=
  ⟨_, pi_list hl, fun σ H g Γ S Rr rel rg ok => ⟨g, Γ, S, rel, rg, OKw.mono (OKw.bind ok) fun p S1 g1 H1 _ e1 h1 x rx => by
    split at h1
    · rename_i q hq
      obtain ⟨a, rfl, hs, hJ⟩ := walk_lst e1.rel rx hq
      exact ⟨a, rfl, hs, OKw.ok e1.rel h1 _ hJ⟩
    · exact h1.elim⟩⟩
theorem jok_tup {Y : Kx} {m : Md} {xs : List PV} {v : V} (rel : Rel Y H g S) (rv : RV Y H g S.length (.con m .tup xs) v) : ∃ a, v = .ref a ∧ (∃ vs, SqT Y.K H a vs) ∧ JOK Y (Itt Y.K a) (stL xs) H g S := by
  have rv0 := rv
  simp only [RV] at rv
  obtain ⟨a, vs, rfl, h2, h3⟩ := rv
  refine ⟨a, rfl, ⟨vs, h2.rdd.tup⟩, fun g' H' S' i e => ?_⟩
  have rv2 := RV.up rel e _ _ rv0
  simp only [RV] at rv2
  obtain ⟨b, ws, eb, q2, q3⟩ := rv2
  cases eb
  have sq := q2.rdd.tup
  refine ⟨fun p hp => ?_, fun hp => ?_⟩
  · obtain ⟨y, z1, z2⟩ := q3.get (i := i) (p := p) (Option.some.inj hp)
    exact ⟨⟨ws, y, sq, z1⟩, fun u H2 ⟨u1, u2⟩ => by
      subst u1
      have := u2 ws sq
      rw [z1] at this; cases this
      exact ⟨g', Ext.refl e.rel, z2⟩⟩
  · exact ⟨ws, sq, by rw [← q3.len]; exact List.getElem?_eq_none_iff.mp (Option.some.inj hp)⟩
theorem I.tup (hl : E X W l ta) : I X W tg l (iT ta) :=
  ⟨_, pi_tup hl, fun σ H g Γ S Rr rel rg ok => ⟨g, Γ, S, rel, rg, OKw.mono (OKw.bind ok) fun p S1 g1 H1 _ e1 h1 x rx => by
    split at h1
    · obtain ⟨a, rfl, hs, hJ⟩ := jok_tup e1.rel rx
      exact ⟨a, rfl, hs, OKw.ok e1.rel h1 _ hJ⟩
    · exact h1.elim⟩⟩
theorem RVs.ofstrs {Y : Kx} {L : Nat} (l : List Nat) : RVs Y H g L (l.map fun c => .str ⟨#[c]⟩) (l.map fun c => V.str ⟨#[c]⟩) := by
  induction l with
  | nil => exact RVs.nil
  | cons i l ih => exact RVs.cons RV.str ih
theorem I.str (hl : E X W l ta) : I X W tg l (iS ta) :=
  ⟨_, pi_str hl, fun σ H g Γ S Rr rel rg ok => ⟨g, Γ, S, rel, rg, OKw.mono (OKw.bind ok) fun p S1 g1 H1 _ e1 h1 x rx => by
    split at h1
    · rename_i z _
      refine ⟨z, rx.str_inv, OKw.ok e1.rel h1 _ (jok_L e1.rel (RVs.ofstrs _) fun H' i => ⟨fun y h => ?_, fun h => ?_⟩)⟩
      · rw [List.getElem?_map] at h
        obtain ⟨c, q1, q2⟩ := Option.map_eq_some_iff.mp h
        have q3 : z.cps[i]? = some c := by simpa using q1
        refine ⟨(Array.getElem?_eq_some_iff.mp q3).1, fun y' H2 w => ?_⟩
        obtain ⟨w1, c', w2, w3⟩ := w
        rw [q3] at w2
        cases w2
        exact ⟨w3.trans q2, w1⟩
      · simp only [List.length_map, Array.length_toList] at h
        exact h
    · exact h1.elim⟩⟩
/-- what a walk reads, whichever it is (chosen by the value) -/
def iAny (t : EF) : IF := fun Γ S => (t Γ S).bind fun p S1 => match p with
  | .con _ .tup xs => .ok (stL xs, xs.length + 1) S1
  | .str z => .ok (stL (strs1 z), z.cps.toList.length + 1) S1
  | p => match walkB S1 p with
    | some q => .ok q S1
    | none => .bad
theorem pi_or {tg iter : Expr} {wi wi' : TI} (h : PI X tg iter wi) (h' : PI X tg iter wi') : PI X tg iter (fun σ H R => wi σ H R ∨ wi' σ H R) := ⟨fun pins s σ H R I q => by
  rcases q with q | q
  · exact h.run pins s σ H R I q
  · exact h'.run pins s σ H R I q⟩
theorem I.any (hl : E X W l ta) : I X W tg l (iAny ta) := by
  obtain ⟨w1, p1, s1⟩ := I.lst (tg := tg) hl
  obtain ⟨w2, p2, s2⟩ := I.tup (tg := tg) hl
  obtain ⟨w3, p3, s3⟩ := I.str (tg := tg) hl
  refine ⟨_, pi_or p1 (pi_or p2 p3), fun σ H g Γ S Rr rel rg ok => ?_⟩
  cases q : ta Γ S with
  | bad => simp only [iAny, q] at ok; exact ok.elim
  | ex c fs S1 => exact Or.inl (s1 σ H g Γ S Rr rel rg (by simp only [iAny, iL, q] at ok ⊢; exact ok))
  | ok v S1 =>
    have ok : OKw X W σ H g S (match v with
      | .con _ .tup xs => .ok (stL xs, xs.length + 1) S1
      | .str z => .ok (stL (strs1 z), z.cps.toList.length + 1) S1
      | p => match walkB S1 p with
        | some q => .ok q S1
        | none => .bad) (fun q S1 g1 H1 => ∀ (J : It), JOK (kx X) J q.1 H1 g1 S1 → Rr J H1) := by simp only [iAny, q] at ok; exact ok
    split at ok
    · exact Or.inr (Or.inl (s2 σ H g Γ S Rr rel rg (by simp only [iT, q]; exact ok)))
    · exact Or.inr (Or.inr (s3 σ H g Γ S Rr rel rg (by simp only [iS, q]; exact ok)))
    · exact Or.inl (s1 σ H g Γ S Rr rel rg (by simp only [iL, q]; exact ok))

/-! ### comprehensions -/
def wipeG (Γ : Gam) : List Nat → Gam
  | [] => Γ
  | v :: vs => (wipeG Γ vs).set v none
theorem RG.wipe {Y : Kx} {L : Nat} (h : RG Y H g L Γ σ) : ∀ vs, RG Y H g L (wipeG Γ vs) (L2.wipe σ vs)
  | [] => h
  | v :: vs => (RG.wipe h vs).unset
/-- the walk of a comprehension: what is kept, in order -/
def lcI (st : Stp) (gt : GF) (tt : BF) (te : EF) (Γ : Gam) : Nat → Nat → List PV → Sto → R (List PV)
  | 0, _, _, _ => .bad
  | m + 1, i, acc, S => match st S i with
    | none => .bad
    | some none => .ok acc S
    | some (some p) => match gt p Γ S with
      | .ok Γ1 S1 => match tt Γ1 S1 with
        | .ok true S2 => match te Γ1 S2 with
          | .ok v S3 => if acc.length < sizeLine then lcI st gt tt te Γ m (i + 1) (acc ++ [v]) S3 else .bad
          | _ => .bad
        | .ok false S2 => lcI st gt tt te Γ m (i + 1) acc S2
        | _ => .bad
      | _ => .bad
def eLc (mu : Bool) (it : IF) (gt : GF) (tt : BF) (te : EF) (vs : List Nat) : EF := fun Γ S => (it Γ S).bind fun q S1 => (lcI q.1 gt tt te (wipeG Γ vs) q.2 0 [] S1).bind fun acc S2 => .ok (newP mu .lst acc S2).1 (newP mu .lst acc S2).2
/-- the list that grows, beside the store -/
structure Grw (Y : Kx) (H0 : Hp) (g0 : G) (S0 : Sto) (D : Addr) (H : Hp) (g : G) (S : Sto) : Prop where
  ext : Ext Y H0 g0 S0 H g S
  no : H0 D = none
  own : ∀ n, Al S n → g.r n ≠ D
  fF : ¬ g.F D
  fT : ¬ g.T D
theorem Grw.step {Y : Kx} {D : Addr} {o : HO} (w : Grw Y H0 g0 S0 D H g S) (hD : H D = some o) (e : Ext Y H g S H' g' S') : Grw Y H0 g0 S0 D H' g' S' ∧ H' D = some o := by
  refine ⟨⟨w.ext.trans e, w.no, fun n hn z => ?_, fun z => ?_, fun z => ?_⟩, e.frame D o hD fun n hn => w.own n hn⟩
  · rcases e.old n hn with ⟨h1, h2⟩ | h1
    · exact w.own n h1 (h2.symm.trans z)
    · rw [z, hD] at h1; cases h1
  · rcases e.nf D z with z | z | ⟨n, hn, z⟩
    · exact w.fF z
    · rw [hD] at z; cases z
    · exact w.own n hn z
  · rw [e.tt] at z; exact w.fT z
theorem Grw.put {Y : Kx} {D : Addr} {o o' : HO} (w : Grw Y H0 g0 S0 D H g S) (hD : H D = some o) (hm : Mut (some o)) : Grw Y H0 g0 S0 D (upd H D o') g S ∧ Up H g S.length (upd H D o') g S.length := by
  have up : Up H g S.length (upd H D o') g S.length := ⟨fun a u h z => by
    refine (upd_ne fun e => ?_).trans h
    subst e
    rw [hD] at h
    cases h
    rcases z hm with z | z
    · exact w.fF z
    · exact w.fT z, fun _ h => h, fun _ h => h, fun _ _ => rfl, Nat.le_refl _⟩
  have r := w.ext.rel
  refine ⟨⟨⟨⟨fun n k xs q => ?_, r.inj, r.fF, r.fT, fun a z => ?_⟩, fun a u h z => ?_, w.ext.old, w.ext.rho, w.ext.len, w.ext.fr, w.ext.tt, fun a u h => ?_, w.ext.nf⟩, w.no, w.own, w.fF, w.fT⟩, up⟩
  · obtain ⟨u, vs, h1, h2, h3, h4⟩ := r.ob n k xs q
    exact ⟨u, vs, by rw [upd_ne (w.own n ⟨_, q⟩)]; exact h1, h2, h3, RVs.mono up _ _ h4⟩
  · by_cases z2 : a = D
    · exact ⟨o', by rw [z2, upd_same]⟩
    · rw [upd_ne z2]; exact r.tr a z
  · rw [upd_ne (ne_of_none h w.no)]; exact w.ext.frame a u h z
  · rw [upd_ne (ne_of_none h w.no)]; exact w.ext.trk a u h
theorem Grw.fin {Y : Kx} {D : Addr} {mu : Bool} {acc : List PV} {vs : List V} (w : Grw Y H0 g0 S0 D H g S) (hD : H D = some (.lst vs)) (hv : RVs Y H g S.length acc vs) :
    ∃ g', Ext Y H0 g0 S0 H g' (newP mu .lst acc S).2 ∧ RV Y H g' (newP mu .lst acc S).2.length (newP mu .lst acc S).1 (.ref D) := by
  have r := w.ext.rel
  cases mu with
  | false =>
    have up : Up H g S.length H (g.addF D) S.length := ⟨fun _ _ h _ => h, fun _ h => Or.inl h, fun _ h => h, fun _ _ => rfl, Nat.le_refl _⟩
    refine ⟨g.addF D, ⟨⟨fun n k xs q => ?_, r.inj, fun n hn z => ?_, r.fT, fun a z => ?_⟩, w.ext.frame, w.ext.old, w.ext.rho, w.ext.len, fun a h => Or.inl (w.ext.fr a h), w.ext.tt, w.ext.trk, fun a z => ?_⟩, ?_⟩
    · obtain ⟨u, ws, h1, h2, h3, h4⟩ := r.ob n k xs q
      exact ⟨u, ws, h1, h2, h3, RVs.mono up _ _ h4⟩
    · rcases z with z | z
      · exact r.fF n hn z
      · exact w.own n hn z
    · rcases z with (z | z) | z
      · exact r.tr a (Or.inl z)
      · exact ⟨_, z ▸ hD⟩
      · exact r.tr a (Or.inr z)
    · rcases z with z | z
      · exact w.ext.nf a z
      · exact Or.inr (Or.inl (z ▸ w.no))
    · show RV Y H (g.addF D) S.length (.con .own .lst acc) (.ref D)
      simp only [RV]
      exact ⟨D, vs, rfl, ⟨_, rfl, hD, fun _ => Or.inr rfl⟩, RVs.mono up _ _ hv⟩
  | true =>
    have up : Up H g S.length H (g.addR S.length D) (S.length + 1) := ⟨fun _ _ h _ => h, fun _ h => h, fun _ h => h, fun n h => if_neg (Nat.ne_of_lt h), Nat.le_succ _⟩
    have hlen : (S ++ [some (Kd.lst, acc)]).length = S.length + 1 := by simp
    have hal : ∀ n, Al (S ++ [some (Kd.lst, acc)]) n → (Al S n ∧ (g.addR S.length D).r n = g.r n) ∨ (n = S.length ∧ (g.addR S.length D).r n = D) := fun n hn => by
      obtain ⟨q, e⟩ := hn
      by_cases hl : n < S.length
      · rw [List.getElem?_append_left hl] at e
        exact Or.inl ⟨⟨q, e⟩, if_neg (Nat.ne_of_lt hl)⟩
      · have : n = S.length := by
          have := (List.getElem?_eq_some_iff.mp e).1
          rw [hlen] at this
          omega
        exact Or.inr ⟨this, if_pos this⟩
    refine ⟨g.addR S.length D, ⟨⟨fun n k xs q => ?_, fun n m hn hm e => ?_, fun n hn z => ?_, fun n hn z => ?_, fun a z => r.tr a z⟩, w.ext.frame, fun n hn => ?_, fun n hn => ?_, Nat.le_trans w.ext.len (by show S.length ≤ (S ++ [some (Kd.lst, acc)]).length; rw [hlen]; exact Nat.le_succ _), w.ext.fr, w.ext.tt, w.ext.trk, w.ext.nf⟩, ?_⟩
    · have q : (S ++ [some (Kd.lst, acc)])[n]? = some (some (k, xs)) := q
      show ∃ o vs, _ ∧ _ ∧ _ ∧ RVs Y H (g.addR S.length D) (S ++ [some (Kd.lst, acc)]).length xs vs
      rw [hlen]
      rcases hal n ⟨_, q⟩ with ⟨h1, h2⟩ | ⟨h1, h2⟩
      · rw [List.getElem?_append_left h1.lt] at q
        obtain ⟨u, ws, q1, q2, q3, q4⟩ := r.ob n k xs q
        exact ⟨u, ws, by rw [h2]; exact q1, q2, q3, RVs.mono up _ _ q4⟩
      · subst h1
        rw [List.getElem?_append_right (Nat.le_refl _)] at q
        simp only [Nat.sub_self, List.getElem?_cons_zero, Option.some.injEq, Prod.mk.injEq] at q
        obtain ⟨rfl, rfl⟩ := q
        exact ⟨_, vs, by rw [h2]; exact hD, rfl, by decide, RVs.mono up _ _ hv⟩
    · rcases hal n hn with ⟨h1, h2⟩ | ⟨h1, h2⟩
      · rcases hal m hm with ⟨h3, h4⟩ | ⟨h3, h4⟩
        · rw [h2, h4] at e
          exact r.inj n m h1 h3 e
        · rw [h2, h4] at e
          exact absurd e (w.own n h1)
      · rcases hal m hm with ⟨h3, h4⟩ | ⟨h3, h4⟩
        · rw [h2, h4] at e
          exact absurd e.symm (w.own m h3)
        · exact h1.trans h3.symm
    · have z : g.F ((g.addR S.length D).r n) := z
      rcases hal n hn with ⟨h1, h2⟩ | ⟨h1, h2⟩
      · rw [h2] at z; exact r.fF n h1 z
      · rw [h2] at z; exact w.fF z
    · have z : g.T ((g.addR S.length D).r n) := z
      rcases hal n hn with ⟨h1, h2⟩ | ⟨h1, h2⟩
      · rw [h2] at z; exact r.fT n h1 z
      · rw [h2] at z; exact w.fT z
    · rcases hal n hn with ⟨h1, h2⟩ | ⟨h1, h2⟩
      · rw [h2]; exact w.ext.old n h1
      · exact Or.inr (by rw [h2]; exact w.no)
    · exact (if_neg (Nat.ne_of_lt (Nat.lt_of_lt_of_le hn w.ext.len))).trans (w.ext.rho n hn)
    · show RV Y H (g.addR S.length D) (S ++ [some (Kd.lst, acc)]).length (.ref S.length) (.ref D)
      simp only [RV]
      exact ⟨by rw [hlen]; exact Nat.lt_succ_self _, by rw [show (g.addR S.length D).r S.length = D from if_pos rfl]⟩
/-- the targets of a comprehension: what they store are the block's own slots -/
structure CG (X : Cx) (gV : TG) (gt : GF) (vs : List Nat) : Prop where
  ok : ∀ (W : WX) (v : V) (σ0 : L2.St) (H : Hp) (g : G) (S : Sto) (Γ : Gam) (p : PV) (Q : L2.St → Hp → Prop), Rel X H g S → RG X H g S.length Γ (L2.wipe σ0 vs) → RV X H g S.length p v → ∀ Γ1 S1, gt p Γ S = .ok Γ1 S1 →
    (∀ σ2, S1 = S → RG X H g S.length Γ1 σ2 → L2.wipe σ2 vs = L2.wipe σ0 vs → Q σ2 H) → gV v (L2.wipe σ0 vs) H Q
theorem wipe_set {σ0 : L2.St} {i : Nat} {z : Option V} {vs : List Nat} (h : i ∈ vs) : L2.wipe (σ0.set i z) vs = L2.wipe σ0 vs := by
  induction vs with
  | nil => cases h
  | cons v vs ih =>
    unfold L2.wipe
    by_cases e : i ∈ vs
    · rw [ih e]
    · have e2 : i = v := by
        rcases List.mem_cons.mp h with h | h
        · exact h
        · exact absurd h e
      subst e2
      have : ∀ (vs : List Nat), i ∉ vs → L2.wipe (σ0.set i z) vs = (L2.wipe σ0 vs).set i z := fun vs => by
        induction vs with
        | nil => intro _; rfl
        | cons v vs ih =>
          intro h
          unfold L2.wipe
          have h1 : i ≠ v := fun e => h (by rw [e]; exact List.mem_cons_self)
          rw [ih fun e => h (List.mem_cons_of_mem _ e), List.set_comm _ _ h1]
      rw [this vs e, List.set_set]
theorem wipe_wipe (σ0 : L2.St) : ∀ (us vs : List Nat), (∀ i ∈ vs, i ∈ us) → L2.wipe (L2.wipe σ0 vs) us = L2.wipe σ0 us
  | us, [], _ => rfl
  | us, v :: vs, h => by
    show L2.wipe ((L2.wipe σ0 vs).set v none) us = _
    rw [wipe_set (h v List.mem_cons_self)]
    exact wipe_wipe σ0 us vs fun i hi => h i (List.mem_cons_of_mem _ hi)
theorem CG.name {i : Nat} {vs : List Nat} (hi : i ∈ vs) : CG X (gName i) (gN i) vs := ⟨fun W v σ0 H g S Γ p Q rel rg rv Γ1 S1 e k => by
  cases e
  exact k _ rfl (rg.set rv) (by rw [wipe_set hi]; exact wipe_wipe σ0 vs vs fun _ h => h)⟩
/-- names, for a tuple -/
def gNamesV : List Nat → TGs
  | [] => gNil
  | i :: is => gCons (gName i) (gNamesV is)
theorem cg_names : ∀ (is : List Nat) {vs : List Nat} {ps : List PV} {ws : List V} {σ1 σ0 : L2.St} {H : Hp} {g : G} {L : Nat} {Γ Γ1 : Gam} {S S1 : Sto} {Q : L2.St → Hp → Prop} {Y : Kx}, (∀ i ∈ is, i ∈ vs) → RG Y H g L Γ σ1 → L2.wipe σ1 vs = L2.wipe σ0 vs → RVs Y H g L ps ws → gNs is ps Γ S = .ok Γ1 S1 →
    (∀ σ2, S1 = S → RG Y H g L Γ1 σ2 → L2.wipe σ2 vs = L2.wipe σ0 vs → Q σ2 H) → gNamesV is ws σ1 H Q
  | [], vs, ps, ws, σ1, σ0, H, g, L, Γ, Γ1, S, S1, Q, Y, _, rg, hw, rv, e, k => by
    cases ps with
    | nil =>
      simp only [RVs] at rv
      cases e
      exact ⟨rv, k σ1 rfl rg hw⟩
    | cons _ _ => cases e
  | i :: is, vs, ps, ws, σ1, σ0, H, g, L, Γ, Γ1, S, S1, Q, Y, hi, rg, hw, rv, e, k => by
    cases ps with
    | nil => cases e
    | cons p ps =>
      simp only [RVs] at rv
      obtain ⟨v, r, rfl, h2, h3⟩ := rv
      exact ⟨v, r, rfl, cg_names is (fun i h => hi i (List.mem_cons_of_mem _ h)) (rg.set h2) (by rw [wipe_set (hi i List.mem_cons_self)]; exact hw) h3 e k⟩
theorem CG.tup {is : List Nat} {n : Nat} {vs : List Nat} (hi : ∀ i ∈ is, i ∈ vs) (hn : is.length = n) : CG X (gTup X.K n (gNamesV is)) (gT is) vs := ⟨fun W v σ0 H g S Γ p Q rel rg rv Γ1 S1 e k => by
  unfold gT at e
  split at e
  · rename_i xs hd
    obtain ⟨a, ws, rfl, h2, h3⟩ := deref_ok rel rv hd
    exact ⟨a, ws, rfl, h3.tup, by rw [← h2.len, gNs_len ⟨_, _, e⟩, hn], cg_names is hi rg (wipe_wipe σ0 vs vs fun _ h => h) h2 e k⟩
  · cases e⟩
abbrev W0 : WX := fun _ _ _ _ => False
theorem lc_imp {wi : TI} {gV : TG} {gt : GF} {tt : BF} {te : EF} {it : IF} {vs : List Nat} {mu : Bool} {X' : Cx} {W' : WX} (src : SrcOK X W wi it) (cg : CG X gV gt vs) {σ : L2.St} {H : Hp} {Q : VK} (hX : kx X' = kx X) (h : lift X W (eLc mu it gt tt te vs) σ H Q) :
    tLc wi gV (liftB X' W' tt) (lift X' W' te) vs σ H Q := by
  obtain ⟨g, Γ, S, rel, rg, ok⟩ := h
  refine src σ H g Γ S _ rel rg (OKw.mono (OKw.bind ok) fun q S1 g1 H1 _ e1 h1 J hJ D hD => ?_)
  have h1 : OKw X W σ H1 g1 S1 ((lcI q.1 gt tt te (wipeG Γ vs) q.2 0 [] S1).bind fun acc S2 => .ok (newP mu .lst acc S2).1 (newP mu .lst acc S2).2) (fun v S' g' H' => ∀ x, RV X H' g' S'.length v x → Q x H') := h1
  have noex : ∀ m i acc S, (∃ acc' S', lcI q.1 gt tt te (wipeG Γ vs) m i acc S = .ok acc' S') ∨ lcI q.1 gt tt te (wipeG Γ vs) m i acc S = .bad := fun m => by
    induction m with
    | zero => intro i acc S; exact Or.inr rfl
    | succ m ih =>
      intro i acc S
      unfold lcI
      split
      · exact Or.inr rfl
      · exact Or.inl ⟨_, _, rfl⟩
      · split
        · split
          · split
            · split
              · exact ih _ _ _
              · exact Or.inr rfl
            · exact Or.inr rfl
          · exact ih _ _ _
          · exact Or.inr rfl
        · exact Or.inr rfl
  obtain ⟨res, Sr, hres⟩ : ∃ res Sr, lcI q.1 gt tt te (wipeG Γ vs) q.2 0 [] S1 = .ok res Sr := by
    rcases noex q.2 0 [] S1 with h | h
    · exact h
    · rw [h] at h1; exact h1.elim
  rw [hres] at h1
  have fin : ∀ g' H', Ext X H1 g1 S1 H' g' (newP mu .lst res Sr).2 → ∀ x, RV X H' g' (newP mu .lst res Sr).2.length (newP mu .lst res Sr).1 x → Q x H' := fun g' H' e x rx => h1 g' H' e x rx
  have w0 : Grw X H1 g1 S1 D (upd H1 D (.lst [])) g1 S1 := by
    have r := e1.rel
    have up : Up H1 g1 S1.length (upd H1 D (.lst [])) g1 S1.length := ⟨fun a u h _ => by rw [upd_ne (ne_of_none h hD)]; exact h, fun _ h => h, fun _ h => h, fun _ _ => rfl, Nat.le_refl _⟩
    have own : ∀ n, Al S1 n → g1.r n ≠ D := fun n hn z => by
      obtain ⟨u, e⟩ := r.tracked hn
      rw [z, hD] at e; cases e
    refine ⟨⟨⟨fun n k xs q => ?_, r.inj, r.fF, r.fT, fun a z => ?_⟩, fun a u h _ => by rw [upd_ne (ne_of_none h hD)]; exact h, fun n hn => Or.inl ⟨hn, rfl⟩, fun _ _ => rfl, Nat.le_refl _, fun _ h => h, rfl, fun a u h => ⟨u, by rw [upd_ne (ne_of_none h hD)]; exact h⟩, fun _ h => Or.inl h⟩, hD, own, fun z => ?_, fun z => ?_⟩
    · obtain ⟨u, ws, q1, q2, q3, q4⟩ := r.ob n k xs q
      exact ⟨u, ws, by rw [upd_ne (own n ⟨_, q⟩)]; exact q1, q2, q3, RVs.mono up _ _ q4⟩
    · by_cases z2 : a = D
      · exact ⟨_, by rw [z2, upd_same]⟩
      · rw [upd_ne z2]; exact r.tr a z
    · obtain ⟨u, q⟩ := r.tr D (Or.inl z); rw [hD] at q; cases q
    · obtain ⟨u, q⟩ := r.tr D (Or.inr z); rw [hD] at q; cases q
  refine ⟨fun i m H2 => ∃ g2 S2 acc ws, Grw X H1 g1 S1 D H2 g2 S2 ∧ H2 D = some (.lst ws) ∧ RVs X H2 g2 S2.length acc ws ∧ lcI q.1 gt tt te (wipeG Γ vs) m i acc S2 = .ok res Sr, ⟨q.2, g1, S1, [], [], w0, upd_same, RVs.nil, hres⟩, ?_⟩
  rintro i m H2 ⟨g2, S2, acc, ws, w2, hD2, ra, hl⟩
  cases m with
  | zero => cases hl
  | succ m =>
    obtain ⟨j1, j2⟩ := hJ g2 H2 S2 i w2.ext
    unfold lcI at hl
    cases hst : q.1 S2 i with
    | none => rw [hst] at hl; cases hl
    | some z =>
      rw [hst] at hl
      cases z with
      | none =>
        cases hl
        obtain ⟨g', q1, q2⟩ := w2.fin (mu := mu) hD2 ra
        exact Or.inl ⟨j2 hst, fin g' H2 q1 _ q2⟩
      | some p =>
        obtain ⟨j3, j4⟩ := j1 p hst
        refine Or.inr ⟨j3, fun H3 => ∃ g3 S3 acc ws, Grw X H1 g1 S1 D H3 g3 S3 ∧ H3 D = some (.lst ws) ∧ RVs X H3 g3 S3.length acc ws ∧ lcI q.1 gt tt te (wipeG Γ vs) m (i + 1) acc S3 = .ok res Sr, fun H3 h3 => ⟨m, Nat.lt_succ_self m, h3⟩, fun x H3 y => ?_⟩
        obtain ⟨g3, e3, rvx⟩ := j4 x H3 y
        obtain ⟨w3, hD3⟩ := w2.step hD2 e3
        have ra3 := RVs.up w2.ext.rel e3 _ _ ra
        have rg3 : RG X H3 g3 S2.length (wipeG Γ vs) (L2.wipe σ vs) := RG.wipe ((rg.up rel e1).up e1.rel w3.ext) vs
        cases hgt : gt p (wipeG Γ vs) S2 with
        | bad => simp only [hgt] at hl; cases hl
        | ex c fs S => simp only [hgt] at hl; cases hl
        | ok Γ4 S4 =>
          simp only [hgt] at hl
          refine cg.ok W x σ H3 g3 S2 _ p _ w3.ext.rel rg3 rvx Γ4 S4 hgt fun σ4 eS rg4 hw => ?_
          subst eS
          refine ⟨hw, ?_⟩
          cases htt : tt Γ4 S4 with
          | bad => simp only [htt] at hl; cases hl
          | ex c fs S => simp only [htt] at hl; cases hl
          | ok bv S5 =>
            simp only [htt] at hl
            have hT : liftB X' W' tt σ4 H3 = fun Q => ∃ g Γ S, Rel (kx X) H3 g S ∧ RG (kx X) H3 g S.length Γ σ4 ∧ OKw (kx X) W' σ4 H3 g S (tt Γ S) fun b _ _ H' => Q b H' := by
              funext Q
              show (∃ g Γ S, Rel (kx X') H3 g S ∧ RG (kx X') H3 g S.length Γ σ4 ∧ OKw (kx X') W' σ4 H3 g S (tt Γ S) fun b _ _ H' => Q b H') = _
              rw [hX]
            rw [hT]
            refine ⟨g3, Γ4, S4, w3.ext.rel, rg4, ?_⟩
            rw [htt]
            intro g5 H5 e5
            obtain ⟨w5, hD5⟩ := w3.step hD3 e5
            have ra5 := RVs.up w3.ext.rel e5 _ _ ra3
            cases bv with
            | false =>
              rw [if_neg Bool.false_ne_true]
              exact ⟨g5, S5, acc, ws, w5, hD5, ra5, hl⟩
            | true =>
              rw [if_pos rfl]
              cases hte : te Γ4 S5 with
              | bad => simp only [hte] at hl; cases hl
              | ex c fs S => simp only [hte] at hl; cases hl
              | ok v S6 =>
                simp only [hte] at hl
                split at hl
                · rename_i hlen
                  have hE : ∀ Q, lift X' W' te σ4 H5 Q = ∃ g Γ S, Rel (kx X) H5 g S ∧ RG (kx X) H5 g S.length Γ σ4 ∧ OKw (kx X) W' σ4 H5 g S (te Γ S) fun v S' g' H' => ∀ x, RV (kx X) H' g' S'.length v x → Q x H' := by
                    intro Q
                    show (∃ g Γ S, Rel (kx X') H5 g S ∧ RG (kx X') H5 g S.length Γ σ4 ∧ OKw (kx X') W' σ4 H5 g S (te Γ S) fun v S' g' H' => ∀ x, RV (kx X') H' g' S'.length v x → Q x H') = _
                    rw [hX]
                  rw [hE]
                  refine ⟨g5, Γ4, S5, w5.ext.rel, rg4.up w3.ext.rel e5, ?_⟩
                  rw [hte]
                  intro g6 H6 e6 x6 rv6
                  obtain ⟨w6, hD6⟩ := w5.step hD5 e6
                  have ra6 := RVs.up w5.ext.rel e6 _ _ ra5
                  obtain ⟨w7, up7⟩ := w6.put (o' := .lst (ws ++ [x6])) hD6 trivial
                  refine ⟨ws, hD6, by rw [← ra6.len]; exact hlen, g6, S6, acc ++ [v], ws ++ [x6], w7, upd_same, (RVs.mono up7 _ _ ra6).append (RVs.cons (RV.mono up7 _ _ rv6) RVs.nil), hl⟩
                · cases hl
end
end Pv

/-! Pv8: comprehensions as expressions; defs over the store; lists changed; what is built in. -/
namespace Pv
open PySem PySem.Spec PyProof.Rows L2
section
variable {X : Cx} {H H' H'' H0 : Hp} {g g' g'' g0 : G} {S S' S'' S0 : Sto} {W : WX} {a b c e o l tg elt iter : Expr} {es rest ifs : List Expr} {ta tb tc to te : EF} {tr : AF} {pos p apos cpos spos : Pos} {Γ : Gam} {σ : L2.St} {x m : Str} {k j : Nat}

/-! ### comprehensions -/
def Ts (X : Cx) (W : WX) (ifs : List Expr) (t : BF) : Prop := PTs X ifs (liftB X W t)
def bYes : BF := fun _ S => .ok true S
theorem Ts.nil : Ts X W [] bYes := ⟨fun pins s σ H Q I ⟨g, Γ, S, rel, rg, ok⟩ => pts_nil.run pins s σ H Q I (OKw.ok rel ok)⟩
theorem Ts.one {t : BF} (h : B X W c t) : Ts X W [c] t := pts_one h
section
variable {scope : Scope} {own : List (Str × Nat)} {it : IF} {gV : TG} {gt : GF} {tt : BF}
theorem E.lc (mu : Bool) (hc : X.calm = true) (hN : X.N.Nodup) (hi : I X W tg iter it) (ok : BlkOk X.N X.env.scope scope own) (cg : CG X gV gt (own.map (·.2)))
    (hg : ∀ (s : Shared) (H : Hp) (C : Addr) (cl : List (Str × Addr)) (fp : List Addr), PG (X.blk s H scope (compEnvC scope cl C X.env) fp) tg gV)
    (ht : ∀ (s : Shared) (H : Hp) (C : Addr) (cl : List (Str × Addr)) (fp : List Addr), Ts (X.blk s H scope (compEnvC scope cl C X.env) fp) W0 ifs tt)
    (he : ∀ (s : Shared) (H : Hp) (C : Addr) (cl : List (Str × Addr)) (fp : List Addr), E (X.blk s H scope (compEnvC scope cl C X.env) fp) W0 elt te) (hs : ∀ x, foldedSetIterable iter X.env x = pure x := by intro _; rfl) :
    E X W (.ListComp elt [⟨tg, iter, ifs, 0⟩] scope pos) (eLc mu it gt tt te (own.map (·.2))) := by
  obtain ⟨wi, pi, src⟩ := hi
  exact pe_imp (pe_lc (tt := liftB X W0 tt) (te := lift X W0 te) hc hN pi ok hg ht he hs) fun σ H Q h => lc_imp (X' := X) (W' := W0) src cg rfl h
theorem St.setLc (mu : Bool) {i : Nat} {y : Str} {py : Pos} (hc : X.calm = true) (hN : X.N.Nodup) (hy : X.N[i]? = some y) (hyl : X.env.scope.names.lookup y = some .local)
    (hsw : swapsWith (.ListComp elt [⟨tg, iter, ifs, 0⟩] scope pos) (some (.Name y py)) spos.line X.env = pure true) (hi : I X W tg iter it) (ok : BlkOk X.N X.env.scope scope own) (cg : CG X gV gt (own.map (·.2)))
    (hg : ∀ (s : Shared) (H : Hp) (C : Addr) (cl : List (Str × Addr)) (fp : List Addr), PG (X.blk s H scope (compEnvC scope cl C X.env) fp) tg gV)
    (ht : ∀ (s : Shared) (H : Hp) (C : Addr) (cl : List (Str × Addr)) (fp : List Addr), Ts (X.blk s H scope (compEnvC scope cl C X.env) fp) W0 ifs tt)
    (he : ∀ (s : Shared) (H : Hp) (C : Addr) (cl : List (Str × Addr)) (fp : List Addr), E (X.blk s H scope (compEnvC scope cl C X.env) fp) W0 elt te) (hs : ∀ x, foldedSetIterable iter X.env x = pure x := by intro _; rfl) :
    St X W (.Assign [.Name y py] (.ListComp elt [⟨tg, iter, ifs, 0⟩] scope pos) spos) (sSet i (eLc mu it gt tt te (own.map (·.2)))) := by
  obtain ⟨wi, pi, src⟩ := hi
  exact ps_imp (ps_setLc (tt := liftB X W0 tt) (te := lift X W0 te) hc hN hy hyl hsw pi ok hg ht he hs) fun D σ H h => by
    obtain ⟨g, Γ, S, rel, rg, okk⟩ := h
    exact lc_imp (X' := X) (W' := W0) (mu := mu) src cg rfl ⟨g, Γ, S, rel, rg, OKw.mono (OKs.st rel rg okk) fun v S1 g1 H1 _ e1 h1 x rx => h1 g1 H1 _ (Ext.refl e1.rel) ((rg.up rel e1).set rx)⟩
end

/-! ### a def over the store -/
def runW (np n : Nat) (body : SF) (args : List PV) (S : Sto) : R PV := if args.length = np then (match body (args.map some ++ List.replicate (n - args.length) none) S with
  | .nx _ S' => .ok .non S'
  | .rt v S' => .ok v S'
  | .ex c fs _ S' => .ex c fs S'
  | _ => .bad) else .bad
def OKc (Y : Kx) (H : Hp) (g : G) (S : Sto) (r : R PV) (Q : VK) (E : XK) : Prop := match r with
  | .ok v S' => ∀ g' H' x, Ext Y H g S H' g' S' → RV Y H' g' S'.length v x → Q x H'
  | .ex c fs S' => ∀ g' H' cls d, Ext Y H g S H' g' S' → RX Y H' g' S'.length c fs cls d → E cls d H'
  | .bad => False
def spW (Y : Kx) (f : List PV → Sto → R PV) : Sp := fun vs H Q E => ∃ (g : G) (S : Sto) (ps : List PV), Rel Y H g S ∧ RVs Y H g S.length ps vs ∧ OKc Y H g S (f ps S) Q E
def eCallW (f : List PV → Sto → R PV) (t : AF) : EF := fun Γ S => (t Γ S).bind fun ps S1 => f ps S1
theorem E.callW {f : List PV → Sto → R PV} (c : Cal X.prog X.w X.K X.mg X.base k x (spW X f)) (hr : Room j X.A) (tk : Takes X W) (hg : Gl X x) (ha : A X W (e :: es) tr) (hk : k ≤ j := by decide)
    (hdb : (x == ("__debug__" : Str)) = false := by decide) (he : starEach (e :: es) X.env = (false, eval e X.env) :: starEach es X.env := by rfl) (hpl : (backTo pos (starEach es X.env)).any (·.1) = false := by rfl) :
    E X W (.Call (.Name x p) (e :: es) [] pos) (eCallW f tr) := by
  obtain ⟨fa, fd, ps, F, hm, kp, b⟩ := c.ex
  refine pe_imp (pe_callS F (hr.mono hk) hg hm kp b (passAt tk) ha hdb he hpl) fun σ H Q ⟨g, Γ, S, rel, rg, ok⟩ => ?_
  refine ⟨g, Γ, S, rel, rg, OKw.mono (OKw.bind ok) fun ps S1 g1 H1 _ e1 h1 xs rxs => ⟨g1, S1, ps, e1.rel, rxs, ?_⟩⟩
  cases q : f ps S1 with
  | ok v S2 => rw [q] at h1; exact fun g' H' x e2 rv => h1 g' H' e2 x rv
  | ex c fs S2 => rw [q] at h1; exact fun g' H' cls d e2 rx => h1 g' H' cls d e2 rx
  | bad => rw [q] at h1; exact h1
section
variable {P : Program} {w : World} {K : PySem.W.Frag} {mg : Str → Option Value} {base : Heap}
theorem Cal.mkW {x qual : Str} {st : Stmt} {dvs : List V} {kws : List (Str × V)} {f : Addr} {fd : FuncData} {N ps : List Str} {k np n : Nat} {body : SF} (F : FunD K x qual (defArgs st) (defBody st) (defScope st) dvs kws f fd) (hm : mg x = some (.ref f)) (S : FnScope N ps (defScope st)) (b : Binds K fd ps []) (hnp : ps.length = np) (hn : N.length = n)
    (hbody : ∀ (X : Cx) (W : WX), X.prog = P → X.w = w → X.K = K → X.mg = mg → X.base = base → Body X W N (defScope st) k → Ss X W (defBody st) body) : Cal P w K mg base (k + 1) x (spW ⟨K, mg⟩ (runW np n body)) := by
  refine ⟨f, fd, ps, F.ok S (fun vs H Q E ⟨g, S, qs, h0, h1, h3⟩ => ?_) (fun cdv A outer s H vs Q E hr ⟨g, S, qs, h0, h1, h3⟩ => ?_), hm, F.kp, b⟩
  · unfold runW at h3
    split at h3
    · rename_i e
      rw [← h1.len, e, hnp]
    · exact h3.elim
  · unfold runW at h3
    split at h3
    · rename_i elen
      subst hn
      let X := cxOf (L2.CX P w) P w K mg base N qual (defScope st) f cdv A outer s H E
      have tk : Takes X (fun cls d _ H => E cls d H) := takes_of rfl rfl rfl rfl
      have hb := hbody X (fun cls d _ H => E cls d H) rfl rfl rfl rfl rfl ⟨rfl, rfl, rfl, fun _ => rfl, hr, tk, passes_of rfl, rfl, rfl⟩
      refine ⟨_, hb, g, _, S, h0, start_rg (n := 0) h1, ?_⟩
      generalize eb : body (qs.map some ++ List.replicate (N.length - qs.length) none) S = r at h3
      cases r with
      | nx Γ' S' => exact fun g' H' σ' e1 _ => h3 g' H' .non e1 RV.non
      | rt v S' => exact fun g' H' x e1 rv => h3 g' H' x e1 rv
      | ex c fs Γ' S' => exact fun g' H' σ' cls d e1 _ rx => h3 g' H' cls d e1 rx
      | bk Γ' S' => exact h3.elim
      | ct Γ' S' => exact h3.elim
      | bad => exact h3.elim
    · exact h3.elim
end

/-! ### methods of what is built in -/
abbrev MF := PV → List PV → Sto → Option (PV × Sto)
/-- the receiver is of the type T -/
def tyP (T : String) (S : Sto) (p : PV) : Bool := match p with
  | .str _ => T == "str"
  | p => match deref S p with
    | some (.lst, _) => T == "list"
    | _ => false
def eM (T : String) (f : MF) (t : EF) (r : AF) : EF := fun Γ S => (t Γ S).bind fun p S1 => if tyP T S1 p = true then (r Γ S1).bind fun ps S2 => R.of (f p ps S2) else .bad
def MtF (X : Kx) (r : V → List V → Hp → VK → Prop) (f : MF) : Prop := ∀ (H : Hp) (g : G) (S : Sto) (p : PV) (ps : List PV) (x : V) (xs : List V) (w : PV) (S' : Sto) (Q : VK), Rel X H g S → RV X H g S.length p x → RVs X H g S.length ps xs → f p ps S = some (w, S') →
  (∀ g' H' z, Ext X H g S H' g' S' → RV X H' g' S'.length w z → Q z H') → r x xs H Q
theorem tyP_ok {Y : Kx} {T : String} {p : PV} {x : V} (rel : Rel Y H g S) (rv : RV Y H g S.length p x) (h : tyP T S p = true) : tyV Y.K T x H := by
  unfold tyP at h
  split at h
  · rw [rv.str_inv]
    exact beq_iff_eq.mp h
  · split at h
    · rename_i xs e
      obtain ⟨a, vs, rfl, h2, h3⟩ := deref_ok rel rv e
      exact Or.inl ⟨beq_iff_eq.mp h, vs, h3.lst⟩
    · cases h
theorem bm_imp {T : String} {r : V → List V → Hp → VK → Prop} {f : MF} (hf : MtF X r f) {σ : L2.St} {H : Hp} {Q : VK} (h : lift X W (eM T f to tr) σ H Q) : tBM X.K T r (lift X W to) (liftA X W tr) σ H Q := by
  obtain ⟨g, Γ, S, rel, rg, ok⟩ := h
  refine ⟨g, Γ, S, rel, rg, OKw.mono (OKw.bind ok) fun p S1 g1 H1 _ e1 h1 x rx => ?_⟩
  split at h1
  · rename_i ht
    refine ⟨tyP_ok e1.rel rx ht, g1, Γ, S1, e1.rel, rg.up rel e1, OKw.mono (OKw.bind h1) fun ps S2 g2 H2 _ e2 h2 xs rxs => ?_⟩
    cases hw : f p ps S2 with
    | none => rw [hw] at h2; exact h2.elim
    | some z =>
      obtain ⟨w, S3⟩ := z
      rw [hw] at h2
      exact hf H2 g2 S2 p ps x xs w S3 Q e2.rel (RV.up e1.rel e2 _ _ rx) rxs hw fun g' H' z e3 rz => h2 g' H' e3 z rz
  · exact h1.elim
section
variable {T id : String} {r : V → List V → Hp → VK → Prop} {f : MF}
theorem E.bm (pa : PlainAttrs T) (slot : Slot T m id) (hty : typeOf (.builtin id) = pure (.type "method_descriptor")) (hm : MtR X id r) (hf : MtF X r f) (ho : E X W o to) (ha : A X W (e :: es) tr)
    (hbase : attributeBase o m X.env (eval o X.env) = eval o X.env := by rfl)
    (hfew : ((backTo cpos (starEach (e :: es) X.env)).all (fun x => !x.1) && (backToKw cpos (keywordEach [] X.env)).all (fun x => x.1.isSome)
      && decide ((e :: es).length + ([] : List Keyword).length + (if ([] : List Keyword).isEmpty then 0 else 1) < 30)) = true := by rfl)
    (hline : (apos.endLine == cpos.line) = true := by rfl) (hs : starEach (e :: es) X.env = (false, eval e X.env) :: starEach es X.env := by rfl) (hplain : (backTo cpos (starEach es X.env)).any (·.1) = false := by rfl) :
    E X W (.Call (.Attribute o m apos) (e :: es) [] cpos) (eM T f to tr) :=
  pe_imp (pe_bm pa slot hty hm ho ha hbase hfew hline hs hplain) fun _ _ _ h => bm_imp hf h
theorem E.bm0 (pa : PlainAttrs T) (slot : Slot T m id) (hty : typeOf (.builtin id) = pure (.type "method_descriptor")) (hm : MtR X id r) (hf : MtF X r f) (h : ∀ {to : TE}, PE X o to → PE X (.Call (.Attribute o m apos) [] [] cpos) (tBM X.K T r to tNil)) (ho : E X W o to) :
    E X W (.Call (.Attribute o m apos) [] [] cpos) (eM T f to aNil) :=
  pe_imp (h ho) fun σ H Q ⟨g, Γ, S, rel, rg, ok⟩ => ⟨g, Γ, S, rel, rg, OKw.mono (OKw.bind ok) fun p S1 g1 H1 _ e1 h1 x rx => by
    split at h1
    · rename_i ht
      refine ⟨tyP_ok e1.rel rx ht, ?_⟩
      have h1 : OKw X W σ H1 g1 S1 (R.of (f p [] S1)) _ := h1
      cases hw : f p [] S1 with
      | none => rw [hw] at h1; exact h1.elim
      | some z =>
        obtain ⟨w, S3⟩ := z
        rw [hw] at h1
        exact hf H1 g1 S1 p [] x [] w S3 Q e1.rel rx RVs.nil hw fun g' H' z e3 rz => h1 g' H' e3 z rz
    · exact h1.elim⟩
end
/-! lists changed -/
def lstF (f : List PV → List PV → Option (PV × List PV)) : MF := fun p ps S => match p with
  | .ref n => match S[n]?.join with
    | some (.lst, xs) => (f xs ps).map fun q => (q.1, S.set n (some (.lst, q.2)))
    | _ => none
  | _ => none
theorem lstF_inv {f : List PV → List PV → Option (PV × List PV)} {Y : Kx} {p : PV} {ps : List PV} {x : V} {w : PV} (rel : Rel Y H g S) (rv : RV Y H g S.length p x) (h : lstF f p ps S = some (w, S')) :
    ∃ n xs vs xs', p = .ref n ∧ x = .ref (g.r n) ∧ S[n]? = some (some (.lst, xs)) ∧ H (g.r n) = some (.lst vs) ∧ RVs Y H g S.length xs vs ∧ f xs ps = some (w, xs') ∧ S' = S.set n (some (.lst, xs')) := by
  unfold lstF at h
  split at h
  · rename_i n
    split at h
    · rename_i xs ej
      simp only [Option.map_eq_some_iff] at h
      obtain ⟨q, h1, h2⟩ := h
      cases h2
      have hn := join_some ej
      obtain ⟨o, vs, q1, q2, _, q4⟩ := rel.ob n _ _ hn
      cases q2
      simp only [RV] at rv
      exact ⟨n, xs, vs, q.2, rfl, rv.2, hn, q1, q4, h1, rfl⟩
    · cases h
  · cases h
def appendF : MF := lstF fun xs ps => match ps with
  | [v] => if xs.length < sizeLine then some (.non, xs ++ [v]) else none
  | _ => none
theorem mtf_append : MtF X rAppend appendF := by
  intro H g S p ps x xs w S' Q rel rx rxs h k
  obtain ⟨n, ys, vs, ys', rfl, rfl, hn, hH, hr, hf, rfl⟩ := lstF_inv rel rx h
  split at hf
  · split at hf
    · rename_i v hl
      cases hf
      simp only [RVs] at rxs
      obtain ⟨u, r, rfl, h2, rfl⟩ := rxs
      exact ⟨g.r n, vs, u, rfl, rfl, hH, by rw [← hr.len]; exact hl, k g _ _ (set_ok rel hn (o' := .lst (vs ++ [u])) rfl (by decide) (hr.append (RVs.cons h2 RVs.nil))) RV.non⟩
    · cases hf
  · cases hf
def popF : MF := lstF fun xs ps => match ps with
  | [] => (xs[xs.length - 1]?).map fun v => (v, xs.dropLast)
  | _ => none
theorem RVs.dropLast {Y : Kx} {L : Nat} {xs : List PV} {vs : List V} (h : RVs Y H g L xs vs) : RVs Y H g L xs.dropLast vs.dropLast := by
  rw [List.dropLast_eq_take, List.dropLast_eq_take, ← h.len]
  exact h.take _
theorem mtf_pop : MtF X rPop popF := by
  intro H g S p ps x xs w S' Q rel rx rxs h k
  obtain ⟨n, ys, vs, ys', rfl, rfl, hn, hH, hr, hf, rfl⟩ := lstF_inv rel rx h
  split at hf
  · simp only [Option.map_eq_some_iff] at hf
    obtain ⟨v, h1, h2⟩ := hf
    cases h2
    simp only [RVs] at rxs
    subst rxs
    obtain ⟨u, q1, q2⟩ := hr.get h1
    have e := set_ok (k' := .lst) rel hn (o' := .lst vs.dropLast) rfl (by decide) hr.dropLast
    exact ⟨g.r n, vs, u, rfl, rfl, hH, by rw [← hr.len]; exact q1, k g _ _ e (RV.up rel e _ _ q2)⟩
  · cases hf
def extendF : MF := fun p ps S => match ps with
  | [q] => match derefH S q with
    | some (.lst, ys) => lstF (fun xs _ => if xs.length + ys.length ≤ sizeLine then some (.non, xs ++ ys) else none) p ps S
    | _ => none
  | _ => none
theorem mtf_extend : MtF X rExtend extendF := by
  intro H g S p ps x xs w S' Q rel rx rxs h k
  unfold extendF at h
  split at h
  · rename_i q
    split at h
    · rename_i zs eq
      obtain ⟨n, ys, vs, ys', rfl, rfl, hn, hH, hr, hf, rfl⟩ := lstF_inv rel rx h
      simp only [RVs] at rxs
      obtain ⟨u, r, rfl, h2, rfl⟩ := rxs
      obtain ⟨b, ws, o, rfl, k2, k3, k4⟩ := derefH_ok rel h2 eq
      cases k3
      split at hf
      · rename_i hl
        cases hf
        exact ⟨g.r n, b, vs, ws, rfl, rfl, hH, k4, by rw [← hr.len, ← k2.len]; exact hl, k g _ _ (set_ok rel hn (o' := .lst (vs ++ ws)) rfl (by decide) (hr.append k2)) RV.non⟩
      · cases hf
    · cases h
  · cases h
def reverseF : MF := lstF fun xs ps => match ps with
  | [] => some (.non, xs.reverse)
  | _ => none
theorem RVs.reverse {Y : Kx} {L : Nat} : ∀ {xs : List PV} {vs : List V}, RVs Y H g L xs vs → RVs Y H g L xs.reverse vs.reverse
  | [], _, h => by simp only [RVs] at h; subst h; exact RVs.nil
  | x :: xs, _, h => by
    simp only [RVs] at h
    obtain ⟨v, r, rfl, h2, h3⟩ := h
    rw [List.reverse_cons, List.reverse_cons]
    exact (RVs.reverse h3).append (RVs.cons h2 RVs.nil)
theorem mtf_reverse : MtF X rReverse reverseF := by
  intro H g S p ps x xs w S' Q rel rx rxs h k
  obtain ⟨n, ys, vs, ys', rfl, rfl, hn, hH, hr, hf, rfl⟩ := lstF_inv rel rx h
  split at hf
  · cases hf
    simp only [RVs] at rxs
    subst rxs
    exact ⟨g.r n, vs, rfl, rfl, hH, k g _ _ (set_ok rel hn (o' := .lst vs.reverse) rfl (by decide) hr.reverse) RV.non⟩
  · cases hf

/-! ### o[i] = v -/
abbrev SetF := PV → PV → PV → Sto → Option Sto
def gSubF (f : SetF) (to ti : EF) : GF := fun v Γ S => (to Γ S).bind fun o S1 => (ti Γ S1).bind fun i S2 => match f o i v S2 with
  | some S3 => .ok Γ S3
  | none => .bad
def SetOK (X : Kx) (t : TSet) (f : SetF) : Prop := ∀ (H : Hp) (g : G) (S : Sto) (o i v : PV) (x y z : V) (S' : Sto) (Q : Hp → Prop), Rel X H g S → RV X H g S.length o x → RV X H g S.length i y → RV X H g S.length v z → f o i v S = some S' → (∀ g' H', Ext X H g S H' g' S' → Q H') → t x y z H Q
theorem Tg.sub {t : TSet} {f : SetF} (ho : E X W o to) (hi : E X W a ta) (hs : PSet X t) (hf : SetOK X t f)
    (ha : ∀ v, assign (.Subscript o a pos) X.env v = (do
      let ov ← holding [v] (eval o X.env)
      let iv ← holding [v, ov] (eval a X.env)
      standAt pos
      holding [v, ov, iv] (setItem ov iv v)
      release [v, ov, iv] []) := by intro _; rfl) : Tg X W (.Subscript o a pos) (gSubF f to ta) :=
  pg_imp (pg_sub ho hi hs ha) fun v σ H Q ⟨g, Γ, S, p, rel, rg, rv, ok⟩ => by
    refine ⟨g, Γ, S, rel, rg, OKw.mono (OKw.bind ok) fun o' S1 g1 H1 _ e1 h1 x rx => ?_⟩
    refine ⟨g1, Γ, S1, e1.rel, rg.up rel e1, OKw.mono (OKw.bind h1) fun i' S2 g2 H2 _ e2 h2 y ry => ?_⟩
    split at h2
    · rename_i S3 hw
      exact hf H2 g2 S2 o' i' p x y v S3 _ e2.rel (RV.up e1.rel e2 _ _ rx) ry (RV.up e1.rel e2 _ _ (RV.up rel e1 _ _ rv)) hw fun g' H' e3 => h2 g' H' e3 _ (((rg.up rel e1).up e1.rel e2).up e2.rel e3)
    · exact h2.elim
def setLF : SetF := fun o i v S => match o, i with
  | .ref n, .int k => match S[n]?.join with
    | some (.lst, xs) => (ixN xs.length k).map fun j => S.set n (some (.lst, xs.set j v))
    | _ => none
  | _, _ => none
theorem set_lst : SetOK X rSetL setLF := by
  intro H g S o i v x y z S' Q rel rx ry rz h k
  unfold setLF at h
  split at h
  · rename_i n i
    split at h
    · rename_i xs ej
      simp only [Option.map_eq_some_iff] at h
      obtain ⟨j, h1, rfl⟩ := h
      have hn := join_some ej
      obtain ⟨o, vs, q1, q2, _, q4⟩ := rel.ob n _ _ hn
      cases q2
      simp only [RV] at rx ry
      exact ⟨g.r n, vs, i, j, rx.2, ry, q1, by rw [← q4.len]; exact h1, k g _ (set_ok rel hn (o' := .lst (vs.set j z)) rfl (by decide) (q4.set rz))⟩
    · cases h
  · cases h

/-! ### what is built in, called by name -/
def lenF : CF := fun ps S => match ps with
  | [.str z] => if z.length ≤ sizeLine then some (.int z.length, S) else none
  | [p] => match deref S p with
    | some (.lst, xs) => some (.int xs.length, S)
    | some (.tup, xs) => some (.int xs.length, S)
    | _ => none
  | _ => none
theorem CallR.or {f : Value} {r r' : List V → Hp → VK → Prop} (h : CallR X f r) (h' : CallR X f r') : CallR X f (fun xs H Q => r xs H Q ∨ r' xs H Q) := by
  intro pins s σ H xs us Q I rs q
  rcases q with q | q
  · exact h pins s σ H xs us Q I rs q
  · exact h' pins s σ H xs us Q I rs q
theorem cf_len : CallF X (fun xs H Q => (∃ p ys, xs = [.ref p] ∧ (SqL X.K H p ys ∨ SqT X.K H p ys) ∧ Q (.int ys.length) H) ∨ ∃ z, xs = [.str z] ∧ z.length ≤ sizeLine ∧ Q (.int z.length) H) lenF := by
  intro H g S ps xs w S' Q rel rxs h k
  unfold lenF at h
  split at h
  · split at h
    · cases h
      simp only [RVs, RV] at rxs
      obtain ⟨_, _, rfl, rfl, rfl⟩ := rxs
      exact Or.inr ⟨_, rfl, by assumption, k g H _ (Ext.refl rel) RV.int⟩
    · cases h
  · rename_i p _
    simp only [RVs] at rxs
    obtain ⟨v, _, rfl, h2, rfl⟩ := rxs
    split at h
    · rename_i ys e
      obtain ⟨a, vs, rfl, h4, h5⟩ := deref_ok rel h2 e
      cases h
      exact Or.inl ⟨a, vs, rfl, Or.inl h5.lst, by rw [← h4.len]; exact k g H _ (Ext.refl rel) RV.int⟩
    · rename_i ys e
      obtain ⟨a, vs, rfl, h4, h5⟩ := deref_ok rel h2 e
      cases h
      exact Or.inl ⟨a, vs, rfl, Or.inr h5.tup, by rw [← h4.len]; exact k g H _ (Ext.refl rel) RV.int⟩
    · cases h
  · cases h
theorem cr_len : CallR X (.builtin "len") (fun xs H Q => (∃ p ys, xs = [.ref p] ∧ (SqL X.K H p ys ∨ SqT X.K H p ys) ∧ Q (.int ys.length) H) ∨ ∃ z, xs = [.str z] ∧ z.length ≤ sizeLine ∧ Q (.int z.length) H) := CallR.or call_len_seq call_len_str
def listF (mu : Bool) : CF := fun ps S => match ps with
  | [p] => match deref S p with
    | some (.lst, xs) => some (newP mu .lst xs S)
    | some (.tup, xs) => some (newP mu .lst xs S)
    | _ => none
  | _ => none
theorem cf_list {mu : Bool} : CallF X (fun xs H Q => ∃ p ys, xs = [.ref p] ∧ (SqL X.K H p ys ∨ SqT X.K H p ys) ∧ ∀ l, H l = none → Q (.ref l) (upd H l (.lst ys))) (listF mu) := by
  intro H g S ps xs w S' Q rel rxs h k
  unfold listF at h
  split at h
  · simp only [RVs] at rxs
    obtain ⟨v, _, rfl, h2, rfl⟩ := rxs
    split at h
    · rename_i ys e
      obtain ⟨a, vs, rfl, h4, h5⟩ := deref_ok rel h2 e
      refine ⟨a, vs, rfl, Or.inl h5.lst, fun l hl => ?_⟩
      obtain ⟨g', z1, z2⟩ := new_ok (m := mu) rel hl (k := .lst) (o := .lst _) rfl (by decide) h4
      simp only [Option.some.injEq] at h
      rw [h] at z1 z2
      exact k g' _ _ z1 z2
    · rename_i ys e
      obtain ⟨a, vs, rfl, h4, h5⟩ := deref_ok rel h2 e
      refine ⟨a, vs, rfl, Or.inr h5.tup, fun l hl => ?_⟩
      obtain ⟨g', z1, z2⟩ := new_ok (m := mu) rel hl (k := .lst) (o := .lst _) rfl (by decide) h4
      simp only [Option.some.injEq] at h
      rw [h] at z1 z2
      exact k g' _ _ z1 z2
    · cases h
  · cases h
def tupleF : CF := fun ps S => match ps with
  | [.con m .tup xs] => some (.con m .tup xs, S)
  | [p] => match deref S p with
    | some (.lst, xs) => some (.con .own .tup xs, S)
    | _ => none
  | _ => none
theorem cf_tuple : CallF X (fun xs H Q => ∃ p ys, xs = [.ref p] ∧ ((SqL X.K H p ys ∧ ∀ l, H l = none → Q (.ref l) (upd H l (.tup ys))) ∨ (SqT X.K H p ys ∧ Q (.ref p) H))) tupleF := by
  intro H g S ps xs w S' Q rel rxs h k
  unfold tupleF at h
  split at h
  · cases h
    simp only [RVs] at rxs
    obtain ⟨v, _, rfl, h2, rfl⟩ := rxs
    have h2' := h2
    simp only [RV] at h2
    obtain ⟨a, vs, rfl, h4, h5⟩ := h2
    exact ⟨a, vs, rfl, Or.inr ⟨h4.rdd.tup, k g H _ (Ext.refl rel) h2'⟩⟩
  · simp only [RVs] at rxs
    obtain ⟨v, _, rfl, h2, rfl⟩ := rxs
    split at h
    · rename_i ys e
      obtain ⟨a, vs, rfl, h4, h5⟩ := deref_ok rel h2 e
      cases h
      refine ⟨a, vs, rfl, Or.inl ⟨h5.lst, fun l hl => ?_⟩⟩
      obtain ⟨z1, z2⟩ := newF_ok rel hl (k := .tup) (o := .tup _) rfl h4
      exact k _ _ _ z1 z2
    · cases h
  · cases h
def int1F : CF := fun ps S => match ps with
  | [.int i] => some (.int i, S)
  | [.bl b] => some (.int (if b then 1 else 0), S)
  | _ => none
theorem cf_int1 : CallF X (fun xs H Q => (∃ i, xs = [.int i] ∧ Q (.int i) H) ∨ ∃ k, xs = [.bl k] ∧ Q (.int (if k then 1 else 0)) H) int1F := by
  intro H g S ps xs w S' Q rel rxs h k
  unfold int1F at h
  split at h
  · cases h
    simp only [RVs, RV] at rxs
    obtain ⟨_, _, rfl, rfl, rfl⟩ := rxs
    exact Or.inl ⟨_, rfl, k g H _ (Ext.refl rel) RV.int⟩
  · cases h
    simp only [RVs, RV] at rxs
    obtain ⟨_, _, rfl, rfl, rfl⟩ := rxs
    exact Or.inr ⟨_, rfl, k g H _ (Ext.refl rel) RV.int⟩
  · cases h
def absF : CF := fun ps S => match ps with
  | [.int i] => some (.int (if i < 0 then -i else i), S)
  | _ => none
theorem cf_abs : CallF X (fun xs H Q => ∃ i, xs = [.int i] ∧ Q (.int (if i < 0 then -i else i)) H) absF := by
  intro H g S ps xs w S' Q rel rxs h k
  unfold absF at h
  split at h
  · cases h
    simp only [RVs, RV] at rxs
    obtain ⟨_, _, rfl, rfl, rfl⟩ := rxs
    exact ⟨_, rfl, k g H _ (Ext.refl rel) RV.int⟩
  · cases h
def ii2F (f : Int → Int → Int) : CF := fun ps S => match ps with
  | [.int i, .int j] => some (.int (f i j), S)
  | _ => none
theorem cf_ii2 {f : Int → Int → Int} : CallF X (fun xs H Q => ∃ i j, xs = [.int i, .int j] ∧ Q (.int (f i j)) H) (ii2F f) := by
  intro H g S ps xs w S' Q rel rxs h k
  unfold ii2F at h
  split at h
  · cases h
    simp only [RVs, RV] at rxs
    obtain ⟨_, _, rfl, rfl, _, _, rfl, rfl, rfl⟩ := rxs
    exact ⟨_, _, rfl, k g H _ (Ext.refl rel) RV.int⟩
  · cases h
def divmodF : CF := fun ps S => match ps with
  | [.int i, .int j] => if CDiv i j then some (.con .own .tup [.int (i / j), .int (i % j)], S) else none
  | _ => none
theorem cf_divmod : CallF X (fun xs H Q => ∃ i j, xs = [.int i, .int j] ∧ CDiv i j ∧ ∀ p, H p = none → Q (.ref p) (upd H p (.tup [.int (i / j), .int (i % j)]))) divmodF := by
  intro H g S ps xs w S' Q rel rxs h k
  unfold divmodF at h
  split at h
  · split at h
    · cases h
      simp only [RVs, RV] at rxs
      obtain ⟨_, _, rfl, rfl, _, _, rfl, rfl, rfl⟩ := rxs
      refine ⟨_, _, rfl, by assumption, fun p hp => ?_⟩
      obtain ⟨z1, z2⟩ := newF_ok rel hp (k := .tup) (o := .tup _) rfl (RVs.mk_ints [_, _])
      exact k _ _ _ z1 z2
    · cases h
  · cases h
/-- all, any of a list of bools -/
def blsOf : List PV → Option (List Bool)
  | [] => some []
  | .bl b :: r => (blsOf r).map (b :: ·)
  | _ => none
theorem blsOf_rv {Y : Kx} {L : Nat} : ∀ {xs : List PV} {vs : List V} {bs : List Bool}, RVs Y H g L xs vs → blsOf xs = some bs → vs = bs.map V.bl
  | [], _, _, h, e => by simp only [RVs] at h; cases e; exact h
  | p :: r, vs, bs, h, e => by
    cases p <;> try (cases e; done)
    simp only [blsOf, Option.map_eq_some_iff] at e
    obtain ⟨cs, e1, rfl⟩ := e
    simp only [RVs, RV] at h
    obtain ⟨v, t, rfl, rfl, h3⟩ := h
    rw [blsOf_rv h3 e1] <;> rfl
def bsF (f : List Bool → Bool) : CF := fun ps S => match ps with
  | [p] => match deref S p with
    | some (.lst, xs) => (blsOf xs).map fun bs => (.bl (f bs), S)
    | _ => none
  | _ => none
theorem cf_bs {f : List Bool → Bool} : CallF X (fun vs H Q => ∃ (a : Addr) (bs : List Bool), vs = [V.ref a] ∧ SqL X.K H a (bs.map V.bl) ∧ Q (.bl (f bs)) H) (bsF f) := by
  intro H g S ps xs w S' Q rel rxs h k
  unfold bsF at h
  split at h
  · simp only [RVs] at rxs
    obtain ⟨v, _, rfl, h2, rfl⟩ := rxs
    split at h
    · rename_i ys e
      obtain ⟨a, vs, rfl, h4, h5⟩ := deref_ok rel h2 e
      simp only [Option.map_eq_some_iff, Prod.mk.injEq] at h
      obtain ⟨bs, e1, rfl, rfl⟩ := h
      refine ⟨a, bs, rfl, by rw [← blsOf_rv h4 e1]; exact h5.lst, k g H _ (Ext.refl rel) RV.bl⟩
    · cases h
  · cases h
/-- isinstance of a built-in type -/
def tyName (S : Sto) : PV → Option String
  | .non => some "NoneType"
  | .bl _ => some "bool"
  | .int _ => some "int"
  | .str _ => some "str"
  | p => match deref S p with
    | some (.lst, _) => some "list"
    | some (.tup, _) => some "tuple"
    | _ => none
def isiB (a b : String) : Bool := a == b || (a == "bool" && b == "int")
def isiF : CF := fun ps S => match ps with
  | [p, .ty n] => match tyName S p with
    | some t => if kitB t n = some (isiB t n) then some (.bl (isiB t n), S) else none
    | none => none
  | _ => none
theorem tyName_ok {Y : Kx} {p : PV} {x : V} {t : String} (rel : Rel Y H g S) (rv : RV Y H g S.length p x) (h : tyName S p = some t) : TyX Y.K H x (.type t) := by
  unfold tyName at h
  split at h
  · cases h; rw [rv.non_inv]; exact .base .non
  · cases h; rw [rv.bl_inv]; exact .base (.bl _)
  · cases h; rw [rv.int_inv]; exact .base (.int _)
  · cases h; rw [rv.str_inv]; exact .base (.str _)
  · split at h
    · rename_i ys e
      obtain ⟨a, vs, rfl, h4, h5⟩ := deref_ok rel rv e
      cases h
      rcases h5 with ⟨o, q1, q2⟩ | q
      · cases q1
        rcases q2 with q2 | ⟨ob, q2⟩
        · exact .base (.lst q2)
        · exact .base (.frz q2)
      · obtain ⟨o, its, n, z1, z2, _⟩ := q
        exact .kList z1 z2
    · rename_i ys e
      obtain ⟨a, vs, rfl, h4, h5⟩ := deref_ok rel rv e
      cases h
      rcases h5 with ⟨o, q1, q2⟩ | q
      · cases q1
        rcases q2 with q2 | ⟨ob, q2⟩
        · exact .base (.tup q2)
        · exact .fTuple q2
      · obtain ⟨o, its, n, z1, z2, _⟩ := q
        exact .kTuple z1 z2
    · cases h
theorem cf_isi : CallF X (rIsi X.K) isiF := by
  intro H g S ps xs w S' Q rel rxs h k
  unfold isiF at h
  split at h
  · rename_i p n
    split at h
    · rename_i t et
      split at h
      · rename_i hk
        cases h
        simp only [RVs, RV] at rxs
        obtain ⟨v, _, rfl, h2, _, _, rfl, rfl, rfl⟩ := rxs
        exact ⟨v, .ty n, .type t, .type n, _, rfl, .ty n, tyName_ok rel h2 et, kit_ty hk, k g H _ (Ext.refl rel) RV.bl⟩
      · cases h
    · cases h
  · cases h
/-- a built-in's name as a value -/
theorem E.ty {x : Str} {n : String} (hg : Gl X x) (hm : X.mg x = none) (hv : bootBuiltins x = some (.type n)) (hn : x ≠ "__name__" := by decide) (hd : (x == ("__debug__" : Str)) = false := by decide) : E X W (.Name x pos) (eC (.ty n)) :=
  E.const (pe_bltn (v := .ty n) hg hm hv rfl hn hd) fun H g L => by simp only [RV]
/-- sep.join(list of texts) -/
def strsOf : List PV → Option (List Str)
  | [] => some []
  | .str b :: r => (strsOf r).map (b :: ·)
  | _ => none
theorem strsOf_rv {Y : Kx} {L : Nat} : ∀ {xs : List PV} {vs : List V} {bs : List Str}, RVs Y H g L xs vs → strsOf xs = some bs → vs = bs.map V.str
  | [], _, _, h, e => by simp only [RVs] at h; cases e; exact h
  | p :: r, vs, bs, h, e => by
    cases p <;> try (cases e; done)
    simp only [strsOf, Option.map_eq_some_iff] at e
    obtain ⟨cs, e1, rfl⟩ := e
    simp only [RVs, RV] at h
    obtain ⟨v, t, rfl, rfl, h3⟩ := h
    rw [strsOf_rv h3 e1] <;> rfl
def joinF : MF := fun p ps S => match p, ps with
  | .str a, [q] => match deref S q with
    | some (.lst, xs) => match strsOf xs with
      | some ys => if (ys.map (·.length)).sum + ys.length * a.length ≤ 16777216 then some (.str (Txt.join a ys), S) else none
      | none => none
    | _ => none
  | _, _ => none
theorem mtf_join : MtF X (fun x xs H Q => ∃ a p, ∃ ys : List Str, x = .str a ∧ xs = [.ref p] ∧ (SqL X.K H p (ys.map V.str) ∨ SqT X.K H p (ys.map V.str)) ∧
    (ys.map (·.length)).sum + ys.length * a.length ≤ 16777216 ∧ Q (.str (Txt.join a ys)) H) joinF := by
  intro H g S p ps x xs w S' Q rel rx rxs h k
  unfold joinF at h
  split at h
  · split at h
    · rename_i zs e
      split at h
      · rename_i ys ey
        split at h
        · rename_i hl
          cases h
          simp only [RVs] at rxs
          obtain ⟨v, _, rfl, h2, rfl⟩ := rxs
          obtain ⟨a, vs, rfl, h4, h5⟩ := deref_ok rel h2 e
          exact ⟨_, a, ys, rx.str_inv, rfl, Or.inl (by rw [← strsOf_rv h4 ey]; exact h5.lst), hl, k g H _ (Ext.refl rel) RV.str⟩
        · cases h
      · cases h
    · cases h
  · cases h
end
end Pv

/-! Pv9: within a def's body; the end. -/
namespace Pv
open PySem PySem.Spec PyProof.Rows L2
section
variable {X : Cx} {W : WX} {N : List Str} {sc : Scope} {k : Nat} {pos pos' : Pos} {e : Expr} {te : EF}
/-- a name of the def in slot i, to be read -/
def slC (N : List Str) (sc : Scope) (i : Nat) (x : Str) : Bool := decide (N[i]? = some x) && (match sc.names.lookup x with
  | some .local => true
  | some .cell => true
  | some .free => true
  | _ => false) && !(x == ("__debug__" : Str)) && !(x == ("__classdict__" : Str))
/-- .. to be stored -/
def slT (N : List Str) (sc : Scope) (i : Nat) (x : Str) : Bool := decide (N[i]? = some x) && (match sc.names.lookup x with
  | some .local => true
  | some .cell => true
  | _ => false)
theorem slC_ok {i : Nat} {x : Str} (h : slC N sc i x = true) : N[i]? = some x ∧ Vis sc x ∧ (x == ("__debug__" : Str)) = false ∧ (x == ("__classdict__" : Str)) = false := by
  unfold slC at h
  simp only [Bool.and_eq_true, decide_eq_true_eq, Bool.not_eq_true'] at h
  obtain ⟨⟨⟨h1, h2⟩, h3⟩, h4⟩ := h
  refine ⟨h1, ?_, h3, h4⟩
  split at h2
  · exact Or.inl (by assumption)
  · exact Or.inr (Or.inl (by assumption))
  · exact Or.inr (Or.inr (by assumption))
  · cases h2
theorem slT_ok {i : Nat} {x : Str} (h : slT N sc i x = true) : N[i]? = some x ∧ Loc sc x := by
  unfold slT at h
  simp only [Bool.and_eq_true, decide_eq_true_eq] at h
  obtain ⟨h1, h2⟩ := h
  refine ⟨h1, ?_⟩
  split at h2
  · exact Or.inl (by assumption)
  · exact Or.inr (by assumption)
  · cases h2
theorem E.vr (hN : X.N = N) (hs : X.env.scope = sc) (i : Nat) (x : Str) (h : slC N sc i x = true) : E X W (.Name x pos) (eV i) := by
  subst hN hs
  obtain ⟨h1, h2, h3, h4⟩ := slC_ok h
  exact E.var (pe_var h1 h2 h3 h4)
theorem Body.v (b : Body X W N sc k) (i : Nat) (x : Str) (h : slC N sc i x = true) : E X W (.Name x pos) (eV i) := E.vr b.hN b.sc i x h
theorem Body.pg (b : Body X W N sc k) (nd : N.Nodup) (i : Nat) (x : Str) (h : slT N sc i x = true) : PG X (.Name x pos) (gName i) := by
  have b1 := b.hN
  have b2 := b.sc
  subst b1 b2
  obtain ⟨h1, h2⟩ := slT_ok h
  exact pg_name nd h1 h2 (.inl (b.fn x))
theorem Body.t (b : Body X W N sc k) (nd : N.Nodup) (i : Nat) (x : Str) (h : slT N sc i x = true) : Tg X W (.Name x pos) (gN i) := Tg.name (b.pg nd i x h)
theorem Body.set (b : Body X W N sc k) (nd : N.Nodup) (i : Nat) (x : Str) (h : slT N sc i x = true) (he : E X W e te) (hs : swapsWith e (some (.Name x pos')) pos.line X.env = pure false := by rfl) : St X W (.Assign [.Name x pos'] e pos) (sSet i te) := by
  have b1 := b.hN
  have b2 := b.sc
  subst b1 b2
  obtain ⟨h1, h2⟩ := slT_ok h
  exact St.set (fun he => ps_set nd h1 h2 he hs (.inl (b.fn x))) he
theorem Body.aug (b : Body X W N sc k) (nd : N.Nodup) (i : Nat) (x : Str) (h : slT N sc i x = true) {op : Operator} {r : R2} {f : OF} (ho : PIp X op r) (hf : OpF X r f) (he : E X W e te) : St X W (.AugAssign (.Name x pos') op e pos) (sAug i f te) := by
  have b1 := b.hN
  have b2 := b.sc
  subst b1 b2
  obtain ⟨h1, h2⟩ := slT_ok h
  exact ps_imp (ps_aug nd h1 h2 he ho (.inl (b.fn x))) fun D σ H q => aug_imp hf q
theorem gl_of (hs : X.env.scope = sc) (x : Str) (h : sc.names.lookup x = some .globalImplicit) : Gl X x := by subst hs; exact h
theorem Body.gl (b : Body X W N sc k) (x : Str) (h : sc.names.lookup x = some .globalImplicit) : Gl X x := gl_of b.sc x h
theorem Body.hu (b : Body X W N sc k) : X.A.units + 64 < cLine := b.room.units
/-! within a comprehension's block -/
theorem relabel_eq (scope : Scope) (env : Env) : relabel scope env = relS scope env.scope := rfl
theorem blk_sc {s : Shared} {H : Hp} {scope : Scope} {C : Addr} {cl : List (Str × Addr)} {fp : List Addr} (hs : X.env.scope = sc) : (X.blk s H scope (compEnvC scope cl C X.env) fp).env.scope = relS scope sc := by subst hs; rfl
theorem blk_pg {s : Shared} {H : Hp} {scope : Scope} {C : Addr} {cl : List (Str × Addr)} {fp : List Addr} (hN : X.N = N) (hs : X.env.scope = sc) (nd : N.Nodup) (i : Nat) (x : Str)
    (h : (decide (N[i]? = some x) && (decide ((relS scope sc).names.lookup x = some .local) || (decide ((relS scope sc).names.lookup x = some .cell) && (scope.names.lookup x == some .cell)))) = true) : PG (X.blk s H scope (compEnvC scope cl C X.env) fp) (.Name x pos) (gName i) := by
  subst hN hs
  simp only [Bool.and_eq_true, Bool.or_eq_true, decide_eq_true_eq] at h
  obtain ⟨h1, h2⟩ := h
  rcases h2 with h2 | ⟨h2, h3⟩
  · exact pg_name nd h1 (Or.inl h2) (Or.inr h2)
  · exact pg_name nd h1 (Or.inr h2) (Or.inl h3)
theorem Body.bv (b : Body X W N sc k) {W' : WX} {s : Shared} {H : Hp} {scope : Scope} {C : Addr} {cl : List (Str × Addr)} {fp : List Addr} (i : Nat) (x : Str) (h : slC N (relS scope sc) i x = true) : E (X.blk s H scope (compEnvC scope cl C X.env) fp) W' (.Name x pos) (eV i) := E.vr (X := X.blk s H scope (compEnvC scope cl C X.env) fp) (N := N) (sc := relS scope sc) b.hN (blk_sc b.sc) i x h
theorem Body.bgl (b : Body X W N sc k) {s : Shared} {H : Hp} {scope : Scope} {C : Addr} {cl : List (Str × Addr)} {fp : List Addr} (x : Str) (h : (relS scope sc).names.lookup x = some .globalImplicit) : Gl (X.blk s H scope (compEnvC scope cl C X.env) fp) x := gl_of (X := X.blk s H scope (compEnvC scope cl C X.env) fp) (sc := relS scope sc) (blk_sc b.sc) x h
theorem pgs_names {X' : Cx} {es : List Expr} : PGs X' [] (gNamesV []) := pgs_nil
theorem Body.blk (b : Body X W N sc k) {scope : Scope} {own : List (Str × Nat)} (h : blkC N sc scope own = true) : BlkOk X.N X.env.scope scope own := by
  have b1 := b.hN
  have b2 := b.sc
  subst b1 b2
  exact blkOk_by h
theorem Body.setLc (mu : Bool) (b : Body X W N sc k) (nd : N.Nodup) (i : Nat) (y : Str) {py spos : Pos} {elt tg iter : Expr} {ifs : List Expr} {scope : Scope} {own : List (Str × Nat)} {it : IF} {gV : TG} {gt : GF} {tt : BF} (hy : (decide (N[i]? = some y) && decide (sc.names.lookup y = some .local) && decide (sc.kind = .function) && (py.line == pos.line) && !(scope.names.any fun (n, k) => n == y && (k == .local || k == .cell))) = true)
    (hi : I X W tg iter it) (ok : blkC N sc scope own = true) (cg : CG X gV gt (own.map (·.2)))
    (hg : ∀ (s : Shared) (H : Hp) (C : Addr) (cl : List (Str × Addr)) (fp : List Addr), PG (X.blk s H scope (compEnvC scope cl C X.env) fp) tg gV)
    (ht : ∀ (s : Shared) (H : Hp) (C : Addr) (cl : List (Str × Addr)) (fp : List Addr), Ts (X.blk s H scope (compEnvC scope cl C X.env) fp) W0 ifs tt)
    (he : ∀ (s : Shared) (H : Hp) (C : Addr) (cl : List (Str × Addr)) (fp : List Addr), E (X.blk s H scope (compEnvC scope cl C X.env) fp) W0 elt te) (hs : ∀ x, foldedSetIterable iter X.env x = pure x := by intro _; rfl) :
    St X W (.Assign [.Name y py] (.ListComp elt [⟨tg, iter, ifs, 0⟩] scope pos) spos) (sSet i (eLc mu it gt tt te (own.map (·.2)))) := by
  have bk := b.blk ok
  have b1 := b.hN
  have b2 := b.sc
  subst b1 b2
  simp only [Bool.and_eq_true, decide_eq_true_eq, Bool.not_eq_true'] at hy
  obtain ⟨⟨⟨⟨h1, h2⟩, h3⟩, h4⟩, h5⟩ := hy
  exact St.setLc mu b.calm nd h1 h2 (sw_true h3 h2 h4 h5) hi bk cg hg ht he hs
end
/-- a module's name that holds a number, a text, a tuple of the top -/
theorem E.gint {X : Cx} {W : WX} {x : Str} {i : Int} {pos : Pos} (hg : Gl X x) (hm : ∃ t, X.mg x = some (.int i t)) (hd : (x == ("__debug__" : Str)) = false := by decide) : E X W (.Name x pos) (eC (.int i)) := by
  obtain ⟨t, hm⟩ := hm
  exact E.const (pe_glob (v := .int i) hg hm ⟨t, rfl⟩ hd) fun H g L => RV.int
theorem E.gstr {X : Cx} {W : WX} {x : Str} {i : Str} {pos : Pos} (hg : Gl X x) (hm : ∃ t, X.mg x = some (.str i t)) (hd : (x == ("__debug__" : Str)) = false := by decide) : E X W (.Name x pos) (eC (.str i)) := by
  obtain ⟨t, hm⟩ := hm
  exact E.const (pe_glob (v := .str i) hg hm ⟨t, rfl⟩ hd) fun H g L => RV.str
/-- a tuple of texts that the top has written -/
def WTup (K : PySem.W.Frag) (mg : Str → Option Value) (x : Str) (ss : List Str) : Prop := ∃ a, mg x = some (.ref a) ∧ Wr K a .tup (ss.map V.str)
theorem E.gtup {X : Cx} {W : WX} {x : Str} {ss : List Str} {pos : Pos} (hg : Gl X x) (hm : WTup X.K X.mg x ss) (hd : (x == ("__debug__" : Str)) = false := by decide) : E X W (.Name x pos) (eC (.con .out .tup (ss.map PV.str))) := by
  obtain ⟨a, h1, h2⟩ := hm
  exact E.const (pe_glob (v := .ref a) hg h1 rfl hd) fun H g L => by
    simp only [RV]
    exact ⟨a, _, rfl, Or.inr h2, RVs.mk_strs _⟩
theorem wtup_of {K : PySem.W.Frag} {h : Heap} {mg : Str → Option Value} {x : Str} {ss : List Str} (X : K.In h) (G : h.Ns mainGlobals mg) (c : (He.Fa.glo x).ok K = true) (d : He.tupB K x (ss.map fun s => .str s) = true) : WTup K mg x ss := by
  refine ⟨_, He.glo_ok X G c, ?_⟩
  have q := He.tupB_ok d (fun _ => none)
  rcases q with (q | ⟨o, q⟩) | q
  · cases q
  · cases q
  · obtain ⟨o, its, n, h1, h2, h3, h4, h5⟩ := q
    refine ⟨o, its, n, h1, h2, h3, h4, ?_⟩
    have e : (ss.map fun s => He.Dv.str s).map (He.Dv.v K) = ss.map V.str := by
      rw [List.map_map]; rfl
    rw [e] at h5
    exact h5
end Pv

/-! Pv10: in; defs by their place; the end of a law. -/
namespace Pv
open PySem PySem.Spec PyProof.Rows L2
section
variable {X : Cx} {W : WX} {N : List Str} {sc : Scope} {k : Nat}
def rInP (K : PySem.W.Frag) : R2 := fun x y H Q => ∃ d ds, Dp K H x d ∧ (Dp K H y (.list ds) ∨ Dp K H y (.tuple ds)) ∧ Pl d ∧ PyData.plainAll ds = true ∧ Q (.bl (ds.any fun z => PyData.eqv z d)) H
def rNinP (K : PySem.W.Frag) : R2 := fun x y H Q => ∃ d ds, Dp K H x d ∧ (Dp K H y (.list ds) ∨ Dp K H y (.tuple ds)) ∧ Pl d ∧ PyData.plainAll ds = true ∧ Q (.bl (!ds.any fun z => PyData.eqv z d)) H
theorem op_inP (hu : X.A.units + 65 < cLine) : OpR X (compareOp .In) (rInP X.K) := by
  intro pins s σ H x y v u Q I rx ry h
  obtain ⟨d, ds, hd, he, sd, se, q⟩ := h
  obtain ⟨as, r1⟩ := Dp.reads I d x v hd rx
  have := sd.2
  rcases he with he | he
  · obtain ⟨bs, r2⟩ := Dp.reads I (.list ds) y u he ry
    exact SeqAt.in_list_data r2 r1 se sd.1 (by omega) ⟨.bl _, H, I, rfl, q⟩
  · obtain ⟨bs, r2⟩ := Dp.reads I (.tuple ds) y u he ry
    exact SeqAt.in_tuple_data r2 r1 se sd.1 (by omega) ⟨.bl _, H, I, rfl, q⟩
theorem op_ninP (hu : X.A.units + 65 < cLine) : OpR X (compareOp .NotIn) (rNinP X.K) := by
  intro pins s σ H x y v u Q I rx ry h
  obtain ⟨d, ds, hd, he, sd, se, q⟩ := h
  obtain ⟨as, r1⟩ := Dp.reads I d x v hd rx
  have := sd.2
  rcases he with he | he
  · obtain ⟨bs, r2⟩ := Dp.reads I (.list ds) y u he ry
    exact SeqAt.notIn_list_data r2 r1 se sd.1 (by omega) ⟨.bl _, H, I, rfl, q⟩
  · obtain ⟨bs, r2⟩ := Dp.reads I (.tuple ds) y u he ry
    exact SeqAt.notIn_tuple_data r2 r1 se sd.1 (by omega) ⟨.bl _, H, I, rfl, q⟩
abbrev rInA (K : PySem.W.Frag) : R2 := fun x y H Q => (∃ (c : Nat) (z : Str), x = .str ⟨#[c]⟩ ∧ y = .str z ∧ Q (.bl (decide (c ∈ z.cps.toList))) H) ∨ (rIn K false x y H Q ∨ rInP K x y H Q)
abbrev rNinA (K : PySem.W.Frag) : R2 := fun x y H Q => (∃ (c : Nat) (z : Str), x = .str ⟨#[c]⟩ ∧ y = .str z ∧ Q (.bl (!decide (c ∈ z.cps.toList))) H) ∨ (rIn K true x y H Q ∨ rNinP K x y H Q)
theorem or_in (hu : X.A.units + 65 < cLine) : OpR X (compareOp .In) (rInA X.K) := OpR.or op_in_sign (OpR.or op_in_seq (op_inP hu))
theorem or_nin (hu : X.A.units + 65 < cLine) : OpR X (compareOp .NotIn) (rNinA X.K) := OpR.or op_notIn_sign (OpR.or op_notIn_seq (op_ninP hu))
theorem opf_in : OpF X (rInA X.K) inF :=
  inB_ok (fb := fun b => b) (fun c z H Q q => Or.inl ⟨c, z, rfl, rfl, q⟩) (fun x p ys H Q h1 h2 h3 q => Or.inr (Or.inl ⟨p, ys, rfl, h1, h2, h3, q⟩)) fun x y d ds H Q h1 h2 h3 h4 q => Or.inr (Or.inr ⟨d, ds, h1, h2, h3, h4, q⟩)
theorem opf_nin : OpF X (rNinA X.K) ninF :=
  inB_ok (fb := fun b => !b) (fun c z H Q q => Or.inl ⟨c, z, rfl, rfl, q⟩) (fun x p ys H Q h1 h2 h3 q => Or.inr (Or.inl ⟨p, ys, rfl, h1, h2, h3, q⟩)) fun x y d ds H Q h1 h2 h3 h4 q => Or.inr (Or.inr ⟨d, ds, h1, h2, h3, h4, q⟩)
theorem Body.hu65 (b : Body X W N sc k) : X.A.units + 65 < cLine := by have := b.room.un; omega
/-- text.index(sign): the first place -/
def sindexF : MF := fun p ps S => match p, ps with
  | .str a, [.str b] => match Builtin.Str.occurrences a b 0 a.length 1 with
    | i :: _ => some (.int (i : Nat), S)
    | [] => none
  | _, _ => none
theorem mtf_sindex : MtF X (fun x xs H Q => ∃ a b i rest, x = .str a ∧ xs = [.str b] ∧ Builtin.Str.occurrences a b 0 a.length 1 = i :: rest ∧ Q (.int (i : Nat)) H) sindexF := by
  intro H g S p ps x xs w S' Q rel rx rxs h k
  unfold sindexF at h
  split at h
  · split at h
    · rename_i i r e
      cases h
      simp only [RVs, RV] at rxs
      obtain ⟨_, _, rfl, rfl, rfl⟩ := rxs
      exact ⟨_, _, i, r, rx.str_inv, rfl, e, k g H _ (Ext.refl rel) RV.int⟩
    · cases h
  · cases h
theorem pip_add : PIp X .Add (rI0 fun i j => .int (i + j)) := fun pins s σ H x y v u Q I rx ry ⟨i, j, e1, e2, q⟩ => ip_add pins s σ H x y v u Q I rx ry ⟨i, j, e1, e2, q⟩
theorem pip_sub : PIp X .Sub (rI0 fun i j => .int (i - j)) := fun pins s σ H x y v u Q I rx ry ⟨i, j, e1, e2, q⟩ => ip_sub pins s σ H x y v u Q I rx ry ⟨i, j, e1, e2, q⟩
theorem opf_add0 : OpF X (rI0 fun i j => .int (i + j)) (iOp0 fun i j => .int (i + j)) := opf_I0
end
/-- a def of the text, where it stands, and how its arguments bind -/
def DefAt (K : PySem.W.Frag) (mg : Str → Option Value) (x : Str) (st : Stmt) (ps : List Str) : Prop :=
  ∃ (f : Addr) (fd : FuncData), FunD K x x (defArgs st) (defBody st) (defScope st) [] [] f fd ∧ mg x = some (.ref f) ∧ Binds K fd ps []
section
variable {P : Program} {w : World} {K : PySem.W.Frag} {mg : Str → Option Value} {base : Heap} {x : Str} {st : Stmt} {ps : List Str} {k : Nat}
theorem DefAt.badP (F : DefAt K mg x st ps) (f : List PV → RP) (h : ∀ a, f a = .bad) : Cal P w K mg base k x (spP ⟨K, mg⟩ f) := by
  obtain ⟨a, fd, F, hm, hb⟩ := F
  have no : ∀ vs H Q E, ¬ spP ⟨K, mg⟩ f vs H Q E := fun vs H Q E ⟨g, qs, _, _, h3⟩ => by rw [h] at h3; exact h3
  exact ⟨a, fd, ps, ⟨fun vs H Q E q => (no vs H Q E q).elim, fun A outer s H args us vs Q E _ _ _ _ q => (no vs H Q E q).elim⟩, hm, F.kp, hb⟩
theorem DefAt.badW (F : DefAt K mg x st ps) (f : List PV → Sto → R PV) (h : ∀ a S, f a S = .bad) : Cal P w K mg base k x (spW ⟨K, mg⟩ f) := by
  obtain ⟨a, fd, F, hm, hb⟩ := F
  have no : ∀ vs H Q E, ¬ spW ⟨K, mg⟩ f vs H Q E := fun vs H Q E ⟨g, S, qs, _, _, h3⟩ => by rw [h] at h3; exact h3
  exact ⟨a, fd, ps, ⟨fun vs H Q E q => (no vs H Q E q).elim, fun A outer s H args us vs Q E _ _ _ _ q => (no vs H Q E q).elim⟩, hm, F.kp, hb⟩
end
/-- the script as data -/
def scr (ns : List Int) : PV := .con .out .lst (ns.map PV.int)
/-- the end of a law row: the law's def, as a function of data, gives True -/
theorem law_end {l : PySem.W.OpenLaw} {n k : Nat} {q : Program} {loose : List Str} {XP : (Str → Option Value) → Heap → Prop} {YP : World → Heap → Prop} {d : DefRec} {x : Str}
    (hn : l.most = some n) (hn2 : n ≤ sizeLine) (hdf : d.params.defaults = []) (hr : Room k callerA)
    (F : ∀ (w : World) (mg : Str → Option Value) (fa : Addr) (h : Heap), YP w h → h.Ns mainGlobals mg → mg d.name = some (.ref fa) →
      ∃ (K : PySem.W.Frag) (f : List PV → RP) (fd : FuncData), K.In h ∧ (∀ (s : Shared) (u : Value), BindsTo s fd ⟨[u], []⟩ [(x, u)]) ∧ (∀ ns : List Int, ns.length ≤ n → f [scr ns] = .ok (.bl true)) ∧
        ∀ base : Heap, K.In base → base.Ns mainGlobals mg → FnOk l.prog w K mg base (L2.CX l.prog w) k fa fd [x] (spP ⟨K, mg⟩ f)) :
    PySem.W.WalkO q loose XP YP l.row.toRowW d [] (fun f vs => PySem.call f vs) := by
  refine Att.attach_call hn hdf fun w s₀ s₁ mg mb fa o pm cd doc a vs ns G Y ho hd hcd hmg hobj hints hlen hg => ?_
  obtain ⟨K, f, fd, KX, hb, hlaw, hF⟩ := F w mg fa _ Y G.T.g hmg
  refine law_call KX G.T.g G.T.b G.T.builtins G.T.nolimit hg hobj hints (Nat.le_trans hlen hn2) hr hF hb (fun H hO hS => ?_) fun H e s' hc => ?_
  · refine ⟨⟨fun _ => False, fun _ => False, fun _ => 0⟩, [scr ns], ?_, fun a z => ?_, ?_⟩
    · simp only [RVs, RV, scr]
      refine ⟨_, _, rfl, ⟨a, ns.map V.int, rfl, ?_, RVs.mk_ints ns⟩, rfl⟩
      rcases hS with (hS | ⟨ob, hS⟩) | hS
      · rcases hO a with e | ⟨o, xs, e⟩ <;> (rw [hS] at e; cases e)
      · exact Or.inl ⟨ob, _, rfl, hS⟩
      · exact Or.inr hS
    · rcases z with z | z <;> exact z.elim
    · rw [hlaw ns hlen]
      intro H' F' x _ rv
      simp only [RV] at rv
      exact rv
  · obtain ⟨_, _, _, _, _, _, _, _, _, _, _, _, z⟩ := hc
    exact z
end Pv

/-! Pv11: how the mirrors are reckoned: rules for simp, from the inside out. -/
namespace Pv
open PySem PySem.Spec PyProof.Rows L2
section
variable {Γ Γ' : Gam} {S S' : Sto} {a b c e : EF} {f f' : OF} {x y z : PV} {p q : PV} {i n m : Nat} {k : Bool} {t u : SF}
@[simp] theorem rbind_ok {α β : Type} {v : α} {k : α → Sto → R β} : (R.ok v S).bind k = k v S := (rfl)
@[simp] theorem rof_some {α : Type} {v : α} : R.of (some (v, S)) = .ok v S := (rfl)
@[simp] theorem rst_ok {α : Type} {v : α} {k : α → Sto → RS} : (R.ok v S).st Γ k = k v S := (rfl)
@[simp] theorem rbind_ex {α β : Type} {c : Str} {fs : List (Str × PV)} {k : α → Sto → R β} : (R.ex c fs S).bind k = .ex c fs S := (rfl)
@[simp] theorem rst_ex {α : Type} {c : Str} {fs : List (Str × PV)} {k : α → Sto → RS} : (R.ex (α := α) c fs S).st Γ k = .ex c fs Γ S := (rfl)
/-! names, constants -/
@[simp] theorem eC_eq : eC p Γ S = .ok p S := (rfl)
theorem eV_eq : eV i Γ S = match Γ[i]? with
  | some (some v) => .ok v S
  | _ => .bad := rfl
@[simp] theorem eV_0 {o : Gam} : eV 0 (some p :: o) S = .ok p S := (rfl)
@[simp] theorem eV_s {o : Gam} {z : Option PV} : eV (n + 1) (z :: o) S = eV n o S := (rfl)
@[simp] theorem eV_1 {o : Gam} {z : Option PV} : eV 1 (z :: o) S = eV 0 o S := (rfl)
/-! operators -/
def opK (f : OF) (b : EF) (Γ : Gam) (r : R PV) : R PV := r.bind fun x S1 => (b Γ S1).bind fun y S2 => R.of (f x y S2)
def opK2 (f : OF) (x : PV) (r : R PV) : R PV := r.bind fun y S2 => R.of (f x y S2)
@[simp] theorem eOp_eq : eOp f a b Γ S = opK f b Γ (a Γ S) := (rfl)
@[simp] theorem opK_ok : opK f b Γ (.ok x S) = opK2 f x (b Γ S) := (rfl)
@[simp] theorem opK2_ok : opK2 f x (.ok y S) = R.of (f x y S) := (rfl)
def chK (f f' : OF) (tb tc : EF) (Γ : Gam) (r : R PV) : R PV := r.bind fun x S1 => (tb Γ S1).bind fun y S2 => (R.of (f x y S2)).bind fun z S3 => match z with
  | .bl true => (tc Γ S3).bind fun w S4 => R.of (f' y w S4)
  | .bl false => .ok (.bl false) S3
  | _ => .bad
def chK2 (f f' : OF) (x : PV) (tc : EF) (Γ : Gam) (r : R PV) : R PV := r.bind fun y S2 => (R.of (f x y S2)).bind fun z S3 => match z with
  | .bl true => (tc Γ S3).bind fun w S4 => R.of (f' y w S4)
  | .bl false => .ok (.bl false) S3
  | _ => .bad
def chK3 (f' : OF) (y : PV) (tc : EF) (Γ : Gam) (r : R PV) : R PV := r.bind fun z S3 => match z with
  | .bl true => (tc Γ S3).bind fun w S4 => R.of (f' y w S4)
  | .bl false => .ok (.bl false) S3
  | _ => .bad
@[simp] theorem eChain_eq : eChain f f' a b c Γ S = chK f f' b c Γ (a Γ S) := (rfl)
@[simp] theorem chK_ok : chK f f' b c Γ (.ok x S) = chK2 f f' x c Γ (b Γ S) := (rfl)
@[simp] theorem chK2_ok : chK2 f f' x c Γ (.ok y S) = chK3 f' y c Γ (R.of (f x y S)) := (rfl)
@[simp] theorem chK3_t : chK3 f' y c Γ (.ok (.bl true) S) = opK2 f' y (c Γ S) := (rfl)
@[simp] theorem chK3_f : chK3 f' y c Γ (.ok (.bl false) S) = .ok (.bl false) S := (rfl)
theorem chK3_k : chK3 f' y c Γ (.ok (.bl k) S) = if k = true then opK2 f' y (c Γ S) else .ok (.bl false) S := by cases k <;> rfl
def uK (f : PV → PV) (r : R PV) : R PV := r.bind fun p S1 => .ok (f p) S1
@[simp] theorem eU_eq {f : PV → PV} : eU f a Γ S = uK f (a Γ S) := (rfl)
@[simp] theorem uK_ok {f : PV → PV} : uK f (.ok p S) = .ok (f p) S := (rfl)
def negK (r : R PV) : R PV := r.bind fun v S1 => match v with
  | .int i => .ok (.int (-i)) S1
  | _ => .bad
@[simp] theorem eNeg_eq : eNeg a Γ S = negK (a Γ S) := (rfl)
@[simp] theorem negK_ok {i : Int} : negK (.ok (.int i) S) = .ok (.int (-i)) S := (rfl)
/-! tests -/
def beK (r : R PV) : R Bool := r.bind fun v S1 => match v with
  | .bl b => .ok b S1
  | _ => .bad
@[simp] theorem bE_eq : bE a Γ S = beK (a Γ S) := (rfl)
@[simp] theorem beK_ok : beK (.ok (.bl k) S) = .ok k S := (rfl)
def btK (r : R PV) : R Bool := r.bind fun v S1 => match truB S1 v with
  | some b => .ok b S1
  | none => .bad
def btK2 (S : Sto) : Option Bool → R Bool
  | some b => .ok b S
  | none => .bad
@[simp] theorem bT_eq : bT a Γ S = btK (a Γ S) := (rfl)
@[simp] theorem btK_ok : btK (.ok p S) = btK2 S (truB S p) := by unfold btK btK2; simp only [rbind_ok]
@[simp] theorem btK2_some : btK2 S (some k) = .ok k S := (rfl)
@[simp] theorem truB_bl : truB S (.bl k) = some k := (rfl)
@[simp] theorem truB_non : truB S .non = some false := (rfl)
@[simp] theorem truB_int {i : Int} : truB S (.int i) = some (decide (i ≠ 0)) := (rfl)
variable {s r : BF}
def andK (t : BF) (Γ : Gam) (r : R Bool) : R Bool := r.bind fun k S1 => if k = true then t Γ S1 else .ok false S1
def orK (t : BF) (Γ : Gam) (r : R Bool) : R Bool := r.bind fun k S1 => if k = true then .ok true S1 else t Γ S1
def notK (r : R Bool) : R Bool := r.bind fun k S1 => .ok (!k) S1
@[simp] theorem bAnd_eq : bAnd s r Γ S = andK r Γ (s Γ S) := (rfl)
@[simp] theorem bOr_eq : bOr s r Γ S = orK r Γ (s Γ S) := (rfl)
@[simp] theorem bNot_eq : bNot s Γ S = notK (s Γ S) := (rfl)
@[simp] theorem andK_t : andK r Γ (.ok true S) = r Γ S := (rfl)
@[simp] theorem andK_f : andK r Γ (.ok false S) = .ok false S := (rfl)
@[simp] theorem orK_t : orK r Γ (.ok true S) = .ok true S := (rfl)
@[simp] theorem orK_f : orK r Γ (.ok false S) = r Γ S := (rfl)
theorem andK_k : andK r Γ (.ok k S) = if k = true then r Γ S else .ok false S := rfl
theorem orK_k : orK r Γ (.ok k S) = if k = true then .ok true S else r Γ S := rfl
@[simp] theorem notK_ok : notK (.ok k S) = .ok (!k) S := (rfl)
def eandK (t : EF) (Γ : Gam) (r : R PV) : R PV := r.bind fun v S1 => match v with
  | .bl true => t Γ S1
  | .bl false => .ok (.bl false) S1
  | _ => .bad
def eorK (t : EF) (Γ : Gam) (r : R PV) : R PV := r.bind fun v S1 => match v with
  | .bl true => .ok (.bl true) S1
  | .bl false => t Γ S1
  | _ => .bad
def enotK (r : R PV) : R PV := r.bind fun v S1 => match v with
  | .bl k => .ok (.bl (!k)) S1
  | _ => .bad
@[simp] theorem eAnd_eq : eAnd a b Γ S = eandK b Γ (a Γ S) := (rfl)
@[simp] theorem eOr_eq : eOr a b Γ S = eorK b Γ (a Γ S) := (rfl)
@[simp] theorem eNot_eq : eNot a Γ S = enotK (a Γ S) := (rfl)
@[simp] theorem eandK_t : eandK b Γ (.ok (.bl true) S) = b Γ S := (rfl)
@[simp] theorem eandK_f : eandK b Γ (.ok (.bl false) S) = .ok (.bl false) S := (rfl)
@[simp] theorem eorK_t : eorK b Γ (.ok (.bl true) S) = .ok (.bl true) S := (rfl)
@[simp] theorem eorK_f : eorK b Γ (.ok (.bl false) S) = b Γ S := (rfl)
theorem eandK_k : eandK b Γ (.ok (.bl k) S) = if k = true then b Γ S else .ok (.bl false) S := by cases k <;> rfl
theorem eorK_k : eorK b Γ (.ok (.bl k) S) = if k = true then .ok (.bl true) S else b Γ S := by cases k <;> rfl
@[simp] theorem enotK_ok : enotK (.ok (.bl k) S) = .ok (.bl (!k)) S := (rfl)
def eifK (ta tb : EF) (Γ : Gam) (r : R Bool) : R PV := r.bind fun k S1 => if k = true then ta Γ S1 else tb Γ S1
@[simp] theorem eIf_eq : eIf s a b Γ S = eifK a b Γ (s Γ S) := (rfl)
@[simp] theorem eifK_ok : eifK a b Γ (.ok k S) = if k = true then a Γ S else b Γ S := (rfl)
/-! rows, displays, calls -/
variable {tr : AF} {ps : List PV}
def consK (r : AF) (Γ : Gam) (x : R PV) : R (List PV) := x.bind fun v S1 => (r Γ S1).bind fun vs S2 => .ok (v :: vs) S2
def consK2 (v : PV) (x : R (List PV)) : R (List PV) := x.bind fun vs S2 => .ok (v :: vs) S2
@[simp] theorem aNil_eq : aNil Γ S = .ok [] S := (rfl)
@[simp] theorem aCons_eq : aCons a tr Γ S = consK tr Γ (a Γ S) := (rfl)
@[simp] theorem consK_ok : consK tr Γ (.ok p S) = consK2 p (tr Γ S) := (rfl)
@[simp] theorem consK2_ok : consK2 p (.ok ps S) = .ok (p :: ps) S := (rfl)
def tupK (x : R (List PV)) : R PV := x.bind fun vs S1 => if vs.length ≤ sizeLine then .ok (.con .own .tup vs) S1 else .bad
def lstK (m : Bool) (x : R (List PV)) : R PV := x.bind fun vs S1 => if vs.length ≤ sizeLine then .ok (newP m .lst vs S1).1 (newP m .lst vs S1).2 else .bad
@[simp] theorem eTup_eq : eTup tr Γ S = tupK (tr Γ S) := (rfl)
@[simp] theorem eLst_eq : eLst k tr Γ S = lstK k (tr Γ S) := (rfl)
@[simp] theorem tupK_ok : tupK (.ok ps S) = if ps.length ≤ sizeLine then .ok (.con .own .tup ps) S else .bad := (rfl)
@[simp] theorem lstK_f : lstK false (.ok ps S) = if ps.length ≤ sizeLine then .ok (.con .own .lst ps) S else .bad := (rfl)
@[simp] theorem lstK_t : lstK true (.ok ps S) = if ps.length ≤ sizeLine then .ok (.ref S.length) (S ++ [some (.lst, ps)]) else .bad := (rfl)
def calK (f : CF) (x : R (List PV)) : R PV := x.bind fun ps S1 => R.of (f ps S1)
@[simp] theorem eCall_eq {f : CF} : eCall f tr Γ S = calK f (tr Γ S) := (rfl)
@[simp] theorem calK_ok {f : CF} : calK f (.ok ps S) = R.of (f ps S) := (rfl)
def calPK (f : List PV → RP) (x : R (List PV)) : R PV := x.bind fun ps S1 => match ps.mapM (lendV S1) with
  | some qs => match f qs with
    | .ok v => .ok v S1
    | .ex c fs => .ex c fs S1
    | .bad => .bad
  | none => .bad
def calPK2 (f : List PV → RP) (S : Sto) : Option (List PV) → R PV
  | some qs => match f qs with
    | .ok v => .ok v S
    | .ex c fs => .ex c fs S
    | .bad => .bad
  | none => .bad
def calPK3 (S : Sto) : RP → R PV
  | .ok v => .ok v S
  | .ex c fs => .ex c fs S
  | .bad => .bad
@[simp] theorem eCallP_eq {f : List PV → RP} : eCallP f tr Γ S = calPK f (tr Γ S) := (rfl)
@[simp] theorem calPK_ok {f : List PV → RP} : calPK f (.ok ps S) = calPK2 f S (ps.mapM (lendV S)) := by unfold calPK calPK2; simp only [rbind_ok]
@[simp] theorem calPK2_some {f : List PV → RP} {qs : List PV} : calPK2 f S (some qs) = calPK3 S (f qs) := by unfold calPK2 calPK3; rfl
@[simp] theorem calPK3_ok : calPK3 S (.ok p) = .ok p S := (rfl)
@[simp] theorem calPK3_ex {c : Str} {fs : List (Str × PV)} : calPK3 S (.ex c fs) = .ex c fs S := (rfl)
def calWK (f : List PV → Sto → R PV) (x : R (List PV)) : R PV := x.bind fun ps S1 => f ps S1
@[simp] theorem eCallW_eq {f : List PV → Sto → R PV} : eCallW f tr Γ S = calWK f (tr Γ S) := (rfl)
@[simp] theorem calWK_ok {f : List PV → Sto → R PV} : calWK f (.ok ps S) = f ps S := (rfl)
def emK (T : String) (f : MF) (r : AF) (Γ : Gam) (x : R PV) : R PV := x.bind fun p S1 => if tyP T S1 p = true then (r Γ S1).bind fun ps S2 => R.of (f p ps S2) else .bad
def emK2 (f : MF) (p : PV) (x : R (List PV)) : R PV := x.bind fun ps S2 => R.of (f p ps S2)
@[simp] theorem eM_eq {T : String} {f : MF} : eM T f a tr Γ S = emK T f tr Γ (a Γ S) := (rfl)
@[simp] theorem emK_ok {T : String} {f : MF} : emK T f tr Γ (.ok p S) = if tyP T S p = true then emK2 f p (tr Γ S) else .bad := (rfl)
@[simp] theorem emK2_ok {f : MF} : emK2 f p (.ok ps S) = R.of (f p ps S) := (rfl)
/-! statements -/
def seqK (u : SF) : RS → RS
  | .nx Γ1 S1 => u Γ1 S1
  | r => r
@[simp] theorem sSeq_eq : sSeq t u Γ S = seqK u (t Γ S) := by unfold sSeq seqK; rfl
@[simp] theorem seqK_nx : seqK u (.nx Γ S) = u Γ S := (rfl)
@[simp] theorem seqK_rt : seqK u (.rt p S) = .rt p S := (rfl)
@[simp] theorem seqK_bk : seqK u (.bk Γ S) = .bk Γ S := (rfl)
@[simp] theorem seqK_ct : seqK u (.ct Γ S) = .ct Γ S := (rfl)
@[simp] theorem seqK_ex {c : Str} {fs : List (Str × PV)} : seqK u (.ex c fs Γ S) = .ex c fs Γ S := (rfl)
@[simp] theorem sNext_eq : sNext Γ S = .nx Γ S := (rfl)
@[simp] theorem sBreak_eq : sBreak Γ S = .bk Γ S := (rfl)
def exprK (Γ : Gam) (r : R PV) : RS := r.st Γ fun _ S1 => .nx Γ S1
def retK (Γ : Gam) (r : R PV) : RS := r.st Γ fun v S1 => .rt v S1
def setK (i : Nat) (Γ : Gam) (r : R PV) : RS := r.st Γ fun v S1 => .nx (Γ.set i (some v)) S1
def ifK (t u : SF) (Γ : Gam) (r : R Bool) : RS := r.st Γ fun k S1 => if k = true then t Γ S1 else u Γ S1
@[simp] theorem sExpr_eq : sExpr a Γ S = exprK Γ (a Γ S) := (rfl)
@[simp] theorem exprK_ok : exprK Γ (.ok p S) = .nx Γ S := (rfl)
@[simp] theorem exprK_ex {c : Str} {fs : List (Str × PV)} : exprK Γ (.ex c fs S) = .ex c fs Γ S := (rfl)
@[simp] theorem sRet_eq : sRet a Γ S = retK Γ (a Γ S) := (rfl)
@[simp] theorem retK_ok : retK Γ (.ok p S) = .rt p S := (rfl)
@[simp] theorem retK_ex {c : Str} {fs : List (Str × PV)} : retK Γ (.ex c fs S) = .ex c fs Γ S := (rfl)
@[simp] theorem sSet_eq : sSet i a Γ S = setK i Γ (a Γ S) := (rfl)
@[simp] theorem setK_ok : setK i Γ (.ok p S) = .nx (Γ.set i (some p)) S := (rfl)
@[simp] theorem setK_ex {c : Str} {fs : List (Str × PV)} : setK i Γ (.ex c fs S) = .ex c fs Γ S := (rfl)
@[simp] theorem sIf_eq : sIf s t u Γ S = ifK t u Γ (s Γ S) := (rfl)
theorem ifK_ok : ifK t u Γ (.ok k S) = if k = true then t Γ S else u Γ S := rfl
@[simp] theorem ifK_t : ifK t u Γ (.ok true S) = t Γ S := (rfl)
@[simp] theorem ifK_f : ifK t u Γ (.ok false S) = u Γ S := (rfl)
@[simp] theorem ifK_ex {c : Str} {fs : List (Str × PV)} : ifK t u Γ (.ex c fs S) = .ex c fs Γ S := (rfl)
def asgK (gt : GF) (Γ : Gam) (r : R PV) : RS := r.st Γ fun v S1 => (gt v Γ S1).st Γ fun Γ1 S2 => .nx Γ1 S2
def asgK2 (Γ : Gam) (r : R Gam) : RS := r.st Γ fun Γ1 S2 => .nx Γ1 S2
variable {gt : GF}
@[simp] theorem sAsg_eq : sAsg a gt Γ S = asgK gt Γ (a Γ S) := (rfl)
@[simp] theorem asgK_ok : asgK gt Γ (.ok p S) = asgK2 Γ (gt p Γ S) := (rfl)
@[simp] theorem asgK_ex {c : Str} {fs : List (Str × PV)} : asgK gt Γ (.ex c fs S) = .ex c fs Γ S := (rfl)
@[simp] theorem asgK2_ok : asgK2 Γ (.ok Γ' S) = .nx Γ' S := (rfl)
@[simp] theorem gN_eq : gN i p Γ S = .ok (Γ.set i (some p)) S := (rfl)
@[simp] theorem gNs_nil : gNs [] [] Γ S = .ok Γ S := (rfl)
@[simp] theorem gNs_cons {is : List Nat} : gNs (i :: is) (p :: ps) Γ S = gNs is ps (Γ.set i (some p)) S := (rfl)
@[simp] theorem gT_tup {is : List Nat} {m : Md} : gT is (.con m .tup ps) Γ S = gNs is ps Γ S := (rfl)
def subK (f : SetF) (v : PV) (ti : EF) (Γ : Gam) (r : R PV) : R Gam := r.bind fun o S1 => (ti Γ S1).bind fun i S2 => match f o i v S2 with
  | some S3 => .ok Γ S3
  | none => .bad
def subK2 (f : SetF) (v o : PV) (Γ : Gam) (r : R PV) : R Gam := r.bind fun i S2 => match f o i v S2 with
  | some S3 => .ok Γ S3
  | none => .bad
def subK3 (Γ : Gam) : Option Sto → R Gam
  | some S3 => .ok Γ S3
  | none => .bad
@[simp] theorem gSub_eq {f : SetF} : gSubF f a b p Γ S = subK f p b Γ (a Γ S) := (rfl)
@[simp] theorem subK_ok {f : SetF} : subK f p b Γ (.ok q S) = subK2 f p q Γ (b Γ S) := (rfl)
@[simp] theorem subK2_ok {f : SetF} : subK2 f p q Γ (.ok x S) = subK3 Γ (f q x p S) := by unfold subK2 subK3; simp only [rbind_ok]
@[simp] theorem subK3_some : subK3 Γ (some S) = .ok Γ S := (rfl)
def augK (i : Nat) (f : OF) (p : PV) (Γ : Gam) (r : R PV) : RS := r.st Γ fun q S1 => match f p q S1 with
  | some (v, S2) => .nx (Γ.set i (some v)) S2
  | none => .bad
def augK2 (i : Nat) (Γ : Gam) : Option (PV × Sto) → RS
  | some (v, S2) => .nx (Γ.set i (some v)) S2
  | none => .bad
theorem sAug_eq (h : Γ[i]? = some (some p)) : sAug i f a Γ S = augK i f p Γ (a Γ S) := by unfold sAug augK; rw [h] <;> rfl
@[simp] theorem augK_ok : augK i f p Γ (.ok q S) = augK2 i Γ (f p q S) := (rfl)
@[simp] theorem augK2_some : augK2 i Γ (some (p, S)) = .nx (Γ.set i (some p)) S := (rfl)
/-! loops -/
def forK (gt : GF) (t : SF) (Γ : Gam) (r : R (Stp × Nat)) : RS := r.st Γ fun q S1 => forI q.1 (sTurn gt t) q.2 0 Γ S1
@[simp] theorem sFor_eq {it : IF} : sFor it gt t Γ S = forK gt t Γ (it Γ S) := (rfl)
theorem forK_ok {st : Stp} : forK gt t Γ (.ok (st, n) S) = forI st (sTurn gt t) n 0 Γ S := rfl
theorem forK_L : forK gt t Γ (.ok (stL ps, ps.length + 1) S) = forL (sTurn gt t) ps Γ S := by
  show forI (stL ps) (sTurn gt t) (ps.length + 1) 0 Γ S = _
  have := forI_L (body := sTurn gt t) ps [] Γ S
  simpa using this
def r1K (r : R (List PV)) : R (Stp × Nat) := r.bind fun ps S1 => match ps with
  | [.int n] => if -(2 ^ 62) ≤ n ∧ n < 2 ^ 62 then .ok (stL (intsF 0 n.toNat), n.toNat + 1) S1 else .bad
  | _ => .bad
@[simp] theorem iR1_eq : iR1 tr Γ S = r1K (tr Γ S) := (rfl)
theorem intsF_len {lo : Int} {n : Nat} : (intsF lo n).length = n := by simp [intsF]
theorem r1K_ok {n : Int} (h : -(2 ^ 62) ≤ n ∧ n < 2 ^ 62) : r1K (.ok [.int n] S) = .ok (stL (intsF 0 n.toNat), (intsF 0 n.toNat).length + 1) S := by
  rw [intsF_len]
  exact if_pos h
def anyK (r : R PV) : R (Stp × Nat) := r.bind fun p S1 => match p with
  | .con _ .tup xs => .ok (stL xs, xs.length + 1) S1
  | .str z => .ok (stL (strs1 z), z.cps.toList.length + 1) S1
  | p => match walkB S1 p with
    | some q => .ok q S1
    | none => .bad
@[simp] theorem iAny_eq : iAny a Γ S = anyK (a Γ S) := (rfl)
@[simp] theorem anyK_tup {m : Md} : anyK (.ok (.con m .tup ps) S) = .ok (stL ps, ps.length + 1) S := (rfl)
@[simp] theorem anyK_lst {m : Md} : anyK (.ok (.con m .lst ps) S) = .ok (stL ps, ps.length + 1) S := (rfl)
@[simp] theorem anyK_str {z : Str} : anyK (.ok (.str z) S) = .ok (stL (strs1 z), (strs1 z).length + 1) S := by
  show R.ok _ _ = _
  rw [show (strs1 z).length = z.cps.toList.length from List.length_map ..]
@[simp] theorem sTurn_N {i : Nat} : sTurn (gN i) t p Γ S = t (Γ.set i (some p)) S := (rfl)
@[simp] theorem forL_nil {body : PV → SF} : forL body [] Γ S = .nx Γ S := (rfl)
def forK2 (body : PV → SF) (ps : List PV) : RS → RS
  | .nx Γ1 S1 => forL body ps Γ1 S1
  | .ct Γ1 S1 => forL body ps Γ1 S1
  | .bk Γ1 S1 => .nx Γ1 S1
  | r => r
theorem forL_cons {body : PV → SF} : forL body (p :: ps) Γ S = forK2 body ps (body p Γ S) := by unfold forK2; rw [forL] <;> cases body p Γ S <;> rfl
@[simp] theorem forK2_nx {body : PV → SF} : forK2 body ps (.nx Γ S) = forL body ps Γ S := (rfl)
@[simp] theorem forK2_ct {body : PV → SF} : forK2 body ps (.ct Γ S) = forL body ps Γ S := (rfl)
@[simp] theorem forK2_bk {body : PV → SF} : forK2 body ps (.bk Γ S) = .nx Γ S := (rfl)
@[simp] theorem forK2_rt {body : PV → SF} : forK2 body ps (.rt p S) = .rt p S := (rfl)
@[simp] theorem forK2_ex {body : PV → SF} {c : Str} {fs : List (Str × PV)} : forK2 body ps (.ex c fs Γ S) = .ex c fs Γ S := (rfl)
/-! by values -/
@[simp] theorem deref_con {m : Md} {k : Kd} : deref S (.con m k ps) = some (k, ps) := (rfl)
@[simp] theorem deref_ref : deref S (.ref n) = S[n]?.join := (rfl)
@[simp] theorem derefH_own {k : Kd} : derefH S (.con .own k ps) = some (k, ps) := (rfl)
@[simp] theorem derefH_lent {k : Kd} : derefH S (.con .lent k ps) = some (k, ps) := (rfl)
@[simp] theorem derefH_ref : derefH S (.ref n) = S[n]?.join := (rfl)
@[simp] theorem iOp0_int {f : Int → Int → PV} {i j : Int} : iOp0 f (.int i) (.int j) S = some (f i j, S) := (rfl)
@[simp] theorem iOp_int {C : Int → Int → Prop} [∀ i j, Decidable (C i j)] {f : Int → Int → PV} {i j : Int} : iOp C f (.int i) (.int j) S = if C i j then some (f i j, S) else none := (rfl)
@[simp] theorem addF_int {i j : Int} : addF k (.int i) (.int j) S = some (.int (i + j), S) := (rfl)
@[simp] theorem addF_str {i j : Str} : addF k (.str i) (.str j) S = if i.length + j.length ≤ sizeLine then some (.str (i ++ j), S) else none := (rfl)
@[simp] theorem mulF_int {i j : Int} : mulF k (.int i) (.int j) S = if CMul i j then some (.int (i * j), S) else none := (rfl)
@[simp] theorem eqF_int {i j : Int} : eqF (.int i) (.int j) S = some (.bl (decide (i = j)), S) := (rfl)
@[simp] theorem eqF_str {i j : Str} : eqF (.str i) (.str j) S = some (.bl (decide (i = j)), S) := (rfl)
@[simp] theorem eqF_bl {i j : Bool} : eqF (.bl i) (.bl j) S = some (.bl (decide (i = j)), S) := (rfl)
@[simp] theorem neF_int {i j : Int} : neF (.int i) (.int j) S = some (.bl (!decide (i = j)), S) := (rfl)
@[simp] theorem neF_str {i j : Str} : neF (.str i) (.str j) S = some (.bl (!decide (i = j)), S) := (rfl)
@[simp] theorem neF_bl {i j : Bool} : neF (.bl i) (.bl j) S = some (.bl (!decide (i = j)), S) := (rfl)
def ofO (S : Sto) : Option PV → Option (PV × Sto)
  | some v => some (v, S)
  | none => none
@[simp] theorem ofO_some : ofO S (some p) = some (p, S) := (rfl)
@[simp] theorem ixF_eq : ixF p q S = ofO S (ixB S p q) := by unfold ixF ofO <;> cases ixB S p q <;> rfl
@[simp] theorem ixB_lst {i : Int} {m : Md} : ixB S (.con m .lst ps) (.int i) = atI ps i := (rfl)
@[simp] theorem ixB_tup {i : Int} {m : Md} : ixB S (.con m .tup ps) (.int i) = atI ps i := (rfl)
def ixD (i : Int) : Option (Kd × List PV) → Option PV
  | some (.lst, xs) => atI xs i
  | some (.tup, xs) => atI xs i
  | _ => none
@[simp] theorem ixB_refD {i : Int} : ixB S (.ref n) (.int i) = ixD i S[n]?.join := by unfold ixB ixD; simp only [deref_ref] <;> rcases S[n]?.join with _ | ⟨k', xs'⟩ <;> first | rfl | (cases k' <;> rfl)
@[simp] theorem ixD_lst {i : Int} : ixD i (some (.lst, ps)) = atI ps i := (rfl)
def lenD (S : Sto) : Option (Kd × List PV) → Option (PV × Sto)
  | some (.lst, xs) => some (.int xs.length, S)
  | some (.tup, xs) => some (.int xs.length, S)
  | _ => none
@[simp] theorem lenF_refD : lenF [.ref n] S = lenD S S[n]?.join := by unfold lenF lenD; simp only [deref_ref] <;> rcases S[n]?.join with _ | ⟨k', xs'⟩ <;> first | rfl | (cases k' <;> rfl)
@[simp] theorem lenD_lst : lenD S (some (.lst, ps)) = some (.int ps.length, S) := (rfl)
def setD (n : Nat) (k : Int) (v : PV) (S : Sto) : Option (Kd × List PV) → Option Sto
  | some (.lst, xs) => (ixN xs.length k).map fun j => S.set n (some (.lst, xs.set j v))
  | _ => none
@[simp] theorem setLF_refD {i : Int} : setLF (.ref n) (.int i) p S = setD n i p S S[n]?.join := by unfold setLF setD; dsimp only <;> rcases S[n]?.join with _ | ⟨k', xs'⟩ <;> first | rfl | (cases k' <;> rfl)
@[simp] theorem setD_lst {i : Int} : setD n i p S (some (.lst, ps)) = (ixN ps.length i).map fun j => S.set n (some (.lst, ps.set j p)) := (rfl)
def lstD (f : List PV → List PV → Option (PV × List PV)) (n : Nat) (qs : List PV) (S : Sto) : Option (Kd × List PV) → Option (PV × Sto)
  | some (.lst, xs) => (f xs qs).map fun q => (q.1, S.set n (some (.lst, q.2)))
  | _ => none
@[simp] theorem lstF_refD {f : List PV → List PV → Option (PV × List PV)} {qs : List PV} : lstF f (.ref n) qs S = lstD f n qs S S[n]?.join := by unfold lstF lstD; dsimp only <;> rcases S[n]?.join with _ | ⟨k', xs'⟩ <;> first | rfl | (cases k' <;> rfl)
@[simp] theorem lstD_lst {f : List PV → List PV → Option (PV × List PV)} {qs : List PV} : lstD f n qs S (some (.lst, ps)) = (f ps qs).map fun q => (q.1, S.set n (some (.lst, q.2))) := (rfl)
@[simp] theorem appendF_eq : appendF = lstF fun xs ps => match ps with
  | [v] => if xs.length < sizeLine then some (.non, xs ++ [v]) else none
  | _ => none := rfl
@[simp] theorem popF_eq : popF = lstF fun xs ps => match ps with
  | [] => (xs[xs.length - 1]?).map fun v => (v, xs.dropLast)
  | _ => none := rfl
def tyD (T : String) : Option (Kd × List PV) → Bool
  | some (.lst, _) => T == "list"
  | _ => false
@[simp] theorem tyP_refD {T : String} : tyP T S (.ref n) = tyD T S[n]?.join := by unfold tyP tyD; simp only [deref_ref] <;> rcases S[n]?.join with _ | ⟨k', xs'⟩ <;> first | rfl | (cases k' <;> rfl)
@[simp] theorem tyD_lst {T : String} : tyD T (some (.lst, ps)) = (T == "list") := (rfl)
theorem ixB_ref {i : Int} (h : S[n]? = some (some (.lst, ps))) : ixB S (.ref n) (.int i) = atI ps i := by simp [ixB, h]
@[simp] theorem lenF_lst {m : Md} : lenF [.con m .lst ps] S = some (.int ps.length, S) := (rfl)
@[simp] theorem lenF_tup {m : Md} : lenF [.con m .tup ps] S = some (.int ps.length, S) := (rfl)
@[simp] theorem lenF_str {z : Str} : lenF [.str z] S = if z.length ≤ sizeLine then some (.int z.length, S) else none := (rfl)
theorem lenF_ref (h : S[n]? = some (some (.lst, ps))) : lenF [.ref n] S = some (.int ps.length, S) := by simp [lenF, h]
theorem setLF_ref {i : Int} (h : S[n]? = some (some (.lst, ps))) : setLF (.ref n) (.int i) p S = (ixN ps.length i).map fun j => S.set n (some (.lst, ps.set j p)) := by simp [setLF, h]
@[simp] theorem int1F_int {i : Int} : int1F [.int i] S = some (.int i, S) := (rfl)
@[simp] theorem absF_int {i : Int} : absF [.int i] S = some (.int (if i < 0 then -i else i), S) := (rfl)
theorem appendF_ref (h : S[n]? = some (some (.lst, ps))) (hl : ps.length < sizeLine) : appendF (.ref n) [p] S = some (.non, S.set n (some (.lst, ps ++ [p]))) := by simp [appendF, lstF, h, hl]
theorem tyP_ref (h : S[n]? = some (some (.lst, ps))) : tyP "list" S (.ref n) = true := by simp [tyP, h]
@[simp] theorem tyP_str {z : Str} : tyP "str" S (.str z) = true := (rfl)
/-! the ends of defs -/
def ruwK : RS → R PV
  | .nx _ S' => .ok .non S'
  | .rt v S' => .ok v S'
  | .ex c fs _ S' => .ex c fs S'
  | _ => .bad
theorem runW_eq {np n : Nat} {body : SF} (h : ps.length = np) : runW np n body ps S = ruwK (body (ps.map some ++ List.replicate (n - ps.length) none) S) := by
  unfold runW ruwK; rw [if_pos h] <;> cases body (ps.map some ++ List.replicate (n - ps.length) none) S <;> rfl
@[simp] theorem ruwK_nx : ruwK (.nx Γ S) = .ok .non S := (rfl)
@[simp] theorem ruwK_rt : ruwK (.rt p S) = .ok p S := (rfl)
@[simp] theorem ruwK_ex {c : Str} {fs : List (Str × PV)} : ruwK (.ex c fs Γ S) = .ex c fs S := (rfl)
def rupK : RS → RP
  | .nx _ _ => .ok .non
  | .rt v S => resP S v
  | .ex c fs _ S => if cleans (fs.map (·.2)) = true then .ex c fs else .bad
  | _ => .bad
theorem runP_eq {np n : Nat} {body : SF} (h : ps.length = np) : runP np n body ps = rupK (body (ps.map some ++ List.replicate (n - ps.length) none) []) := by
  unfold runP rupK; rw [if_pos h] <;> cases body (ps.map some ++ List.replicate (n - ps.length) none) [] <;> rfl
@[simp] theorem rupK_nx : rupK (.nx Γ S) = .ok .non := (rfl)
@[simp] theorem rupK_rt : rupK (.rt p S) = resP S p := (rfl)
@[simp] theorem rupK_ex {c : Str} {fs : List (Str × PV)} : rupK (.ex c fs Γ S) = if cleans (fs.map (·.2)) = true then .ex c fs else .bad := (rfl)
theorem resP_clean (h : clean p = true) : resP S p = .ok p := by unfold resP frzV; rw [if_pos h]
@[simp] theorem resP_bl : resP S (.bl k) = .ok (.bl k) := (rfl)
@[simp] theorem resP_int {i : Int} : resP S (.int i) = .ok (.int i) := (rfl)
@[simp] theorem resP_str {z : Str} : resP S (.str z) = .ok (.str z) := (rfl)
@[simp] theorem resP_non : resP S .non = .ok .non := (rfl)
theorem lend_clean (h : clean p = true) : lendV S p = some p := by unfold lendV; rw [if_pos h]
@[simp] theorem lend_int {i : Int} : lendV S (.int i) = some (.int i) := (rfl)
@[simp] theorem lend_str {z : Str} : lendV S (.str z) = some (.str z) := (rfl)
@[simp] theorem lend_bl : lendV S (.bl k) = some (.bl k) := (rfl)
@[simp] theorem lend_non : lendV S .non = some .non := (rfl)
theorem szl : (sizeLine : Nat) = 16777216 := rfl
end
end Pv

namespace Pv
open PySem PySem.Spec PyProof.Rows L2
/-! Plain tools: comprehensions as folds, the frames of a store. -/
/-- one turn of a comprehension: what is kept -/
def lcT (gt : GF) (tt : BF) (te : EF) (Γ : Gam) (p : PV) (S : Sto) : R (Option PV) := match gt p Γ S with
  | .ok Γ1 S1 => match tt Γ1 S1 with
    | .ok true S2 => match te Γ1 S2 with
      | .ok v S3 => .ok (some v) S3
      | _ => .bad
    | .ok false S2 => .ok none S2
    | _ => .bad
  | _ => .bad
def lcL (f : PV → Sto → R (Option PV)) : List PV → List PV → Sto → R (List PV)
  | [], acc, S => .ok acc S
  | p :: ps, acc, S => match f p S with
    | .ok (some v) S1 => if acc.length < sizeLine then lcL f ps (acc ++ [v]) S1 else .bad
    | .ok none S1 => lcL f ps acc S1
    | _ => .bad
theorem lcI_L {gt : GF} {tt : BF} {te : EF} {Γ : Gam} : ∀ (ps qs acc : List PV) (S : Sto), lcI (stL (qs ++ ps)) gt tt te Γ (ps.length + 1) qs.length acc S = lcL (lcT gt tt te Γ) ps acc S
  | [], qs, acc, S => by
    simp only [List.append_nil, List.length_nil, lcI, stL, lcL]
    rw [List.getElem?_eq_none (Nat.le_refl _)]
  | p :: ps, qs, acc, S => by
    have hd : (qs ++ p :: ps)[qs.length]? = some p := by simp
    have ih := fun a S' => lcI_L (gt := gt) (tt := tt) (te := te) (Γ := Γ) ps (qs ++ [p]) a S'
    simp only [List.append_assoc, List.cons_append, List.nil_append, List.length_append, List.length_cons, List.length_nil, Nat.zero_add] at ih
    rw [List.length_cons, lcI, lcL]
    simp only [stL]
    rw [hd]
    simp only [lcT]
    rcases gt p Γ S with ⟨Γ1, S1⟩ | _ | _ <;> try rfl
    dsimp only
    rcases tt Γ1 S1 with ⟨b, S2⟩ | _ | _ <;> try rfl
    cases b with
    | false => exact ih acc S2
    | true =>
      dsimp only
      rcases te Γ1 S2 with ⟨v, S3⟩ | _ | _ <;> try rfl
      dsimp only
      split
      · exact ih _ _
      · rfl
def lcK (mu : Bool) (gt : GF) (tt : BF) (te : EF) (Γ : Gam) (r : R (Stp × Nat)) : R PV := r.bind fun q S1 => (lcI q.1 gt tt te Γ q.2 0 [] S1).bind fun acc S2 => .ok (newP mu .lst acc S2).1 (newP mu .lst acc S2).2
def lcK2 (mu : Bool) : R (List PV) → R PV
  | .ok acc S2 => .ok (newP mu .lst acc S2).1 (newP mu .lst acc S2).2
  | .ex c fs S => .ex c fs S
  | .bad => .bad
variable {mu : Bool} {it : IF} {gt : GF} {tt : BF} {te : EF} {vs : List Nat} {Γ : Gam} {S : Sto} {ps acc : List PV}
@[simp] theorem eLc_eq : eLc mu it gt tt te vs Γ S = lcK mu gt tt te (wipeG Γ vs) (it Γ S) := (rfl)
@[simp] theorem lcK_L : lcK mu gt tt te Γ (.ok (stL ps, ps.length + 1) S) = lcK2 mu (lcL (lcT gt tt te Γ) ps [] S) := by
  have := lcI_L (gt := gt) (tt := tt) (te := te) (Γ := Γ) ps [] [] S
  simp only [List.nil_append, List.length_nil] at this
  unfold lcK lcK2
  simp only [rbind_ok]
  rw [this]
  cases lcL (lcT gt tt te Γ) ps [] S <;> rfl
@[simp] theorem lcK_L2 {m : Nat} (h : m = ps.length + 1) : lcK mu gt tt te Γ (.ok (stL ps, m) S) = lcK2 mu (lcL (lcT gt tt te Γ) ps [] S) := by subst h; exact lcK_L
@[simp] theorem forK_L2 {t : SF} {m : Nat} (h : m = ps.length + 1) : forK gt t Γ (.ok (stL ps, m) S) = forL (sTurn gt t) ps Γ S := by subst h; exact forK_L
@[simp] theorem lcK2_f : lcK2 false (.ok acc S) = .ok (.con .own .lst acc) S := (rfl)
@[simp] theorem lcK2_t : lcK2 true (.ok acc S) = .ok (.ref S.length) (S ++ [some (.lst, acc)]) := (rfl)
@[simp] theorem wipeG_nil : wipeG Γ [] = Γ := (rfl)
@[simp] theorem wipeG_cons {v : Nat} : wipeG Γ (v :: vs) = (wipeG Γ vs).set v none := (rfl)
/-- each turn keeps a value, the store keeps its shape -/
theorem lcL_inv {f : PV → Sto → R (Option PV)} (P : Sto → Prop) (Q : PV → Prop) : ∀ (ps acc : List PV) (S : Sto), (∀ p ∈ ps, ∀ S, P S → ∃ v S', f p S = .ok (some v) S' ∧ P S' ∧ Q v) → P S → acc.length + ps.length ≤ sizeLine → ∃ vs S', lcL f ps acc S = .ok (acc ++ vs) S' ∧ P S' ∧ (∀ v ∈ vs, Q v) ∧ vs.length = ps.length
  | [], acc, S, _, h, _ => ⟨[], S, by simp [lcL], h, by simp, rfl⟩
  | p :: ps, acc, S, F, h, hl => by
    obtain ⟨v, S1, e, h1, q⟩ := F p (by simp) S h
    simp only [List.length_cons] at hl
    obtain ⟨vs, S2, e2, h2, q2, l2⟩ := lcL_inv P Q ps (acc ++ [v]) S1 (fun p hp => F p (by simp [hp])) h1 (by simp; omega)
    refine ⟨v :: vs, S2, ?_, h2, ?_, by simp [l2]⟩
    · rw [lcL, e]; dsimp only; rw [if_pos (by omega), e2]; simp
    · intro u hu; rcases List.mem_cons.mp hu with rfl | hu
      · exact q
      · exact q2 u hu
theorem lcL_map {f : PV → Sto → R (Option PV)} (m : PV → PV) (S : Sto) : ∀ (ps acc : List PV), (∀ p ∈ ps, f p S = .ok (some (m p)) S) → acc.length + ps.length ≤ sizeLine → lcL f ps acc S = .ok (acc ++ ps.map m) S
  | [], acc, _, _ => by simp [lcL]
  | p :: ps, acc, F, hl => by
    simp only [List.length_cons] at hl
    rw [lcL, F p (by simp)]; dsimp only; rw [if_pos (by omega), lcL_map m S ps _ (fun p hp => F p (by simp [hp])) (by simp; omega)]; simp
theorem lcL_maps {α : Type} {f : PV → Sto → R (Option PV)} (g m : α → PV) (S : Sto) : ∀ (l : List α) (acc : List PV), (∀ p ∈ l, f (g p) S = .ok (some (m p)) S) → acc.length + l.length ≤ sizeLine → lcL f (l.map g) acc S = .ok (acc ++ l.map m) S
  | [], acc, _, _ => by simp [lcL]
  | p :: ps, acc, F, hl => by
    simp only [List.length_cons] at hl
    rw [List.map_cons, lcL, F p (by simp)]; dsimp only; rw [if_pos (by omega), lcL_maps g m S ps _ (fun p hp => F p (by simp [hp])) (by simp; omega)]; simp
theorem blsOf_maps {α : Type} (b : α → Bool) : ∀ l : List α, blsOf (l.map fun c => .bl (b c)) = some (l.map b)
  | [] => rfl
  | a :: l => by simp [blsOf, blsOf_maps b l]
/-- the walk of a for, by what holds before each turn -/
theorem forL_inv {body : PV → SF} (P : Gam → Sto → Prop) (T : RS → Prop) : ∀ (ps : List PV) (Γ : Gam) (S : Sto), (∀ p ∈ ps, ∀ Γ S, P Γ S → (∃ Γ' S', (body p Γ S = .nx Γ' S' ∨ body p Γ S = .ct Γ' S') ∧ P Γ' S')) → P Γ S → ∃ Γ' S', forL body ps Γ S = .nx Γ' S' ∧ P Γ' S'
  | [], Γ, S, _, h => ⟨Γ, S, rfl, h⟩
  | p :: ps, Γ, S, F, h => by
    obtain ⟨Γ1, S1, e, h1⟩ := F p (by simp) Γ S h
    obtain ⟨Γ2, S2, e2, h2⟩ := forL_inv P T ps Γ1 S1 (fun p hp => F p (by simp [hp])) h1
    refine ⟨Γ2, S2, ?_, h2⟩
    rw [forL_cons]
    rcases e with e | e <;> rw [e] <;> simpa using e2
theorem ixN_ok {l : Nat} {i : Int} (h0 : 0 ≤ i) (h1 : i < l) : ixN l i = some i.toNat := by
  unfold ixN
  rw [if_pos h0, if_pos (by omega)]
theorem atI_mem {α : Type} {xs : List α} {i : Int} (h0 : 0 ≤ i) (h1 : i < xs.length) : ∃ x, L2.atI xs i = some x ∧ x ∈ xs := by
  unfold L2.atI
  rw [ixN_ok h0 h1]
  have : i.toNat < xs.length := by omega
  exact ⟨xs[i.toNat], by simp [this], List.getElem_mem _⟩
@[simp] theorem newP_f {k : Kd} : newP false k ps S = (.con .own k ps, S) := (rfl)
@[simp] theorem newP_t {k : Kd} : newP true k ps S = (.ref S.length, S ++ [some (k, ps)]) := (rfl)
theorem addF_lst {m : Bool} {m1 m2 : Md} {qs : List PV} (h1 : m1 ≠ .out) (h2 : m2 ≠ .out) (h : ps.length + qs.length ≤ 16777216) : addF m (.con m1 .lst ps) (.con m2 .lst qs) S = some (newP m .lst (ps ++ qs) S) := by
  have : ps.length + qs.length ≤ sizeLine := h
  cases m1 <;> cases m2 <;> simp_all [addF]
theorem ixB_str1 {S : Sto} {z : Str} {i : Int} (hz : z.length ≤ sizeLine) (h0 : 0 ≤ i) (h1 : i < z.length) : ∃ c, ixB S (.str z) (.int i) = some (.str ⟨#[c]⟩) ∧ c ∈ z.cps.toList := by
  obtain ⟨c, e, m⟩ := atI_mem (xs := z.cps.toList) h0 (by simpa [Str.length] using h1)
  exact ⟨c, by simp [ixB, hz, e], m⟩
theorem strsOf_of : ∀ (vs : List PV), (∀ v ∈ vs, ∃ c : Str, v = .str c ∧ c.length = 1) → ∃ ys : List Str, strsOf vs = some ys ∧ ys.length = vs.length ∧ ∀ y ∈ ys, y.length = 1
  | [], _ => ⟨[], rfl, rfl, by simp⟩
  | v :: vs, h => by
    obtain ⟨c, rfl, hc⟩ := h v (by simp)
    obtain ⟨ys, e, l, q⟩ := strsOf_of vs (fun v hv => h v (by simp [hv]))
    refine ⟨c :: ys, by simp [strsOf, e], by simp [l], ?_⟩
    intro y hy; rcases List.mem_cons.mp hy with rfl | hy
    · exact hc
    · exact q y hy
theorem sum_ones : ∀ (ys : List Str), (∀ y ∈ ys, y.length = 1) → (ys.map (·.length)).sum = ys.length
  | [], _ => rfl
  | y :: ys, h => by simp [h y (by simp), sum_ones ys (fun y hy => h y (by simp [hy]))]; omega
theorem len_app (a b : Str) : (a ++ b : Str).length = a.length + b.length := PySem.Str.length_append a b
theorem join_len {x : Str} (hx : x.length = 0) (ys : List Str) (h : ∀ y ∈ ys, y.length = 1) : (Txt.join x ys).length = ys.length := by
  show (Builtin.Str.glued x ys).length = _
  rw [StrLaws.glued_eq_join]
  induction ys with
  | nil => rfl
  | cons a r ih =>
    cases r with
    | nil => simpa [PySem.Str.join] using h a (by simp)
    | cons b r =>
      have := ih (fun y hy => h y (by simp at hy ⊢; exact Or.inr hy))
      simp only [PySem.Str.join, len_app, this, h a (by simp), hx, List.length_cons]; omega
theorem joinF_ones {S : Sto} {x : Str} {m : Md} {vs : List PV} (hx : x.length = 0) (h : ∀ v ∈ vs, ∃ c : Str, v = .str c ∧ c.length = 1) (hl : vs.length ≤ sizeLine) :
    ∃ t : Str, joinF (.str x) [.con m .lst vs] S = some (.str t, S) ∧ t.length = vs.length := by
  obtain ⟨ys, e, l, q⟩ := strsOf_of vs h
  have : vs.length ≤ 16777216 := hl
  refine ⟨Txt.join x ys, ?_, by rw [join_len hx ys q, l]⟩
  simp [joinF, e, sum_ones ys q, hx, l, this]
theorem inB_strs {S : Sto} {m : Md} {k : Kd} (hk : k = .lst ∨ k = .tup) (w : Str) (l : List Str) : inB S (.str w) (.con m k (l.map PV.str)) = some (decide (w ∈ l)) := by
  have f : (l.map PV.str).all flatP = true := by simp [flatP]
  have g : ((l.map PV.str).any fun y => eqP y (.str w)) = decide (w ∈ l) := by
    induction l with
    | nil => rfl
    | cons a l ih =>
      have ih := ih (by simp [flatP])
      rw [List.map_cons, List.any_cons, ih]
      have e : (a == w) = decide (w = a) := by
        by_cases h : a = w
        · subst h; simp
        · have h' : ¬ w = a := fun q => h q.symm
          simp only [h', decide_false]
          exact Bool.eq_false_iff.mpr (fun q => h (eq_of_beq q))
      simp [eqP, e]
  simp only [inB, deref_con, f, flatP, hk, and_self, if_true, g]
theorem inF_strs {S : Sto} {m : Md} {k : Kd} (hk : k = .lst ∨ k = .tup) (w : Str) (l : List Str) : inF (.str w) (.con m k (l.map PV.str)) S = some (.bl (decide (w ∈ l)), S) := by
  unfold inF; rw [inB_strs hk]; rfl
theorem ninF_strs {S : Sto} {m : Md} {k : Kd} (hk : k = .lst ∨ k = .tup) (w : Str) (l : List Str) : ninF (.str w) (.con m k (l.map PV.str)) S = some (.bl (!decide (w ∈ l)), S) := by
  unfold ninF; rw [inB_strs hk]; rfl
end Pv

namespace Pv
open PySem PySem.Spec PyProof.Rows L2
/-! Exceptions: raise, try. -/
variable {X : Cx} {W : WX} {K : PySem.W.Frag} {mg : Str → Option Value}
/-- an exception class of the program over ValueError, without an own __init__ -/
structure ExcC (K : PySem.W.Frag) (mg : Str → Option Value) (x : Str) (C : Addr) : Prop where
  g : mg x = some (.ref C)
  q : PySem.W.excIn K C He.veBase "ValueError.__new__" = true
  k : PySem.W.keepIn K (.ref C) = true
  b : PySem.W.subIn K (.ref C) (.type "BaseException") = some true
  t : PySem.W.typeIn K (.ref C) = some (.type "type")
theorem pmk_own0 {x : Str} {C : Addr} {p pos : Pos} (T : ExcC X.K X.mg x C) (hg : Gl X x) (hdb : (x == ("__debug__" : Str)) = false := by decide) :
    PMk X (.Call (.Name x p) [] [] pos) (fun _ H Q => Q (.ref C) none H) := by
  intro pins s σ H Q I h
  refine wpAny_Call_Name_kw (ld_glob I hg T.g ?_ hdb)
  refine PySem.W.callWith_K0 I.kIn T.k ?_
  show wpAny _ _ (call (.ref C) []) _ _ _
  obtain ⟨bm, N, nm, qn, bs, hdct, sn, sub, ab, col, dd, k0, k1, k2, k3, k5, mN, hC, hN, hni, T'⟩ := exc_obj I.kIn T.q
  refine wpAny_call_exc_subT F.excBase_ValueError T' hC hN hni (fun h' e hm => ?_) (Nat.zero_le _)
  exact mk_of I hm (raises_own T.b T.t) h (I.hok.gone hm.new)
def sRaise0 (x : Str) : SF := fun Γ S => .ex x [] Γ S
theorem St.raise0 {x : Str} {C : Addr} {p pos pos2 : Pos} (hc : X.calm = true) (tk : Takes X W) (T : ExcC X.K X.mg x C) (hg : Gl X x) (hdb : (x == ("__debug__" : Str)) = false := by decide) :
    St X W (.Raise (some (.Call (.Name x p) [] [] pos)) none pos2) (sRaise0 x) :=
  ps_imp (ps_raise hc tk (pmk_own0 T hg hdb)) fun D σ H ⟨g, Γ, S, rel, rg, ok⟩ => ok g H σ (.ref C) none (Ext.refl rel) rg ⟨T.g, Or.inl ⟨rfl, rfl⟩⟩
/-- what __init__ leaves: its arguments as fields -/
def spIni1 (C : Addr) (f : Str) : Sp := fun vs H Q _ => ∃ a w, vs = [.ref a, w] ∧ H a = some (exo a C none) ∧ ∀ d, H d = none → d ≠ a → Q .non (upd (upd H d (exd d [(f, w)])) a (exo a C (some d)))
/-- an exception class whose __init__ keeps its argument in field f -/
structure ExcI (P : Program) (w : World) (K : PySem.W.Frag) (mg : Str → Option Value) (base : Heap) (x f : Str) (C : Addr) : Prop where
  g : mg x = some (.ref C)
  o : OexC K C
  i : ∃ fI fd ps, PySem.W.findIn K (.ref C) "__init__" = some (some (.ref fI)) ∧ PySem.W.typeIn K (.ref fI) = some (.type "function") ∧ FnOk P w K mg base CX0 1 fI fd ps (spIni1 C f) ∧ Binds K fd ps []
theorem Ext.laid {Y : Kx} {H : Hp} {g : G} {S : Sto} {d : Addr} {o : HO} (rel : Rel Y H g S) (hd : H d = none) : Ext Y H g S (upd H d o) g S := by
  have ne : ∀ {a u}, H a = some u → a ≠ d := fun h z => by rw [z, hd] at h; cases h
  have fr : ∀ a u, H a = some u → upd H d o a = some u := fun a u h => by rw [upd_ne (ne h)]; exact h
  have up : Up H g S.length (upd H d o) g S.length := ⟨fun a u h _ => fr a u h, fun _ h => h, fun _ h => h, fun _ _ => rfl, Nat.le_refl _⟩
  refine ⟨⟨fun n k xs e => ?_, rel.inj, rel.fF, rel.fT, fun a h => ?_⟩, fun a u h _ => fr a u h, fun n h => Or.inl ⟨h, rfl⟩, fun _ _ => rfl, Nat.le_refl _, fun _ h => h, rfl, fun a u h => ⟨u, fr a u h⟩, fun _ h => Or.inl h⟩
  · obtain ⟨u, vs, h1, h2, h3, h4⟩ := rel.ob n k xs e
    exact ⟨u, vs, fr _ _ h1, h2, h3, RVs.mono up _ _ h4⟩
  · obtain ⟨u, h1⟩ := rel.tr a h
    exact ⟨u, fr _ _ h1⟩
def sRaise1 (x f : Str) (tr : AF) : SF := fun Γ S => (tr Γ S).st Γ fun vs S1 => match vs with
  | [v] => .ex x [(f, v)] Γ S1
  | _ => .bad
theorem St.raise1 {x f : Str} {C : Addr} {k : Nat} {e : Expr} {tr : AF} {p pos pos2 : Pos} (hc : X.calm = true) (tk : Takes X W) (T : ExcI X.prog X.w X.K X.mg X.base x f C) (hr : Room k X.A) (hk : 2 ≤ k) (hg : Gl X x) (ha : A X W [e] tr) (hdb : (x == ("__debug__" : Str)) = false := by decide)
    (hs : starEach (e :: []) X.env = (false, eval e X.env) :: starEach [] X.env := by rfl) (hpl : (backTo pos (starEach [] X.env)).any (·.1) = false := by rfl) :
    St X W (.Raise (some (.Call (.Name x p) [e] [] pos)) none pos2) (sRaise1 x f tr) := by
  obtain ⟨fI, fd, ps, i1, i2, F1, hb⟩ := T.i
  refine ps_imp (ps_raise hc tk (pmk_oex T.o i1 i2 F1 (hr.mono hk) hb (.nil) pass0 hg T.g ha hdb hs hpl)) fun D σ H q => ?_
  obtain ⟨g, Γ, S, rel, rg, ok⟩ := q
  refine ⟨g, Γ, S, rel, rg, OKw.mono (OKs.st rel rg ok) fun vs S1 g1 H1 _ e1 h1 xs rx => ?_⟩
  split at h1
  · rename_i v
    simp only [RVs] at rx
    obtain ⟨x1, _, rfl, h2, rfl⟩ := rx
    refine ⟨by simp, fun a ha => ⟨a, x1, rfl, upd_same, fun d hd hda => ⟨rfl, d, [(f, x1)], upd_same, ?_, ?_, ?_⟩⟩⟩
    · rw [upd_ne hda, upd_same]
    · rw [upd_ne hda] at hd; exact hd
    · have hd1 : H1 d = none := by rw [upd_ne hda] at hd; exact hd
      have eH : upd (del (upd (upd (upd H1 a (exo a C none)) d (exd d [(f, x1)])) a (exo a C (some d))) a) d (.xd [(f, x1)]) = upd H1 d (.xd [(f, x1)]) := by
        funext b
        by_cases hb : b = d
        · subst hb; rw [upd_same, upd_same]
        · rw [upd_ne hb, upd_ne hb]
          by_cases hba : b = a
          · subst hba; rw [del_same, ha]
          · rw [del_ne hba, upd_ne hba, upd_ne hb, upd_ne hba]
      rw [eH]
      have e2 : Ext X H1 g1 S1 (upd H1 d (.xd [(f, x1)])) g1 S1 := Ext.laid e1.rel hd1
      refine h1 g1 _ σ (.ref C) (some d) e2 ((rg.up rel e1).up e1.rel e2) ⟨T.g, Or.inr ⟨d, [x1], rfl, upd_same, ?_⟩⟩
      simp only [List.map_cons, List.map_nil, RVs]
      exact ⟨x1, [], rfl, RV.up e1.rel e2 _ _ h2, rfl⟩
  · exact h1.elim
/-- the def __init__ that keeps its argument -/
theorem ini1_ok {P : Program} {w : World} {base : Heap} {qual : Str} {st : Stmt} {dvs : List V} {kws : List (Str × V)} {fI : Addr} {fd : FuncData} {f : Str} {C : Addr} {p1 p2 p3 p4 p5 p6 : Pos}
    (F : FunD K "__init__" qual (defArgs st) (defBody st) (defScope st) dvs kws fI fd) (S : FnScope ["self", f] ["self", f] (defScope st)) (hb : defBody st = [.Assign [.Attribute (.Name "self" p1) f p2] (.Name f p3) p4])
    (l1 : slC ["self", f] (defScope st) 0 "self" = true) (l2 : slC ["self", f] (defScope st) 1 f = true) (o : OexC K C) (no : PySem.W.findIn K (.ref C) f = some none) : FnOk P w K mg base CX0 1 fI fd ["self", f] (spIni1 C f) := by
  refine F.ok S (fun vs H Q E ⟨a, x, e, _⟩ => by rw [e]; rfl) (fun cdv A outer s H vs Q E hr ⟨a, x, e, h1, h2⟩ => ?_)
  subst e
  refine ⟨tOst K f (tVar 0) (tVar 1), ?_, ?_⟩
  · rw [hb]
    obtain ⟨a1, a2, a3, a4⟩ := slC_ok l1
    obtain ⟨b1, b2, b3, b4⟩ := slC_ok l2
    exact pss_one (ps_ost (pe_var (i := 0) a1 a2 a3 a4) (pe_var (i := 1) b1 b2 b3 b4))
  · exact ⟨_, rfl, _, rfl, a, C, rfl, o, no, Or.inl ⟨h1, fun dx k1 k2 => h2 dx k1 k2⟩⟩
/-! try -/
/-- nothing may be raised -/
abbrev WN : WX := fun _ _ _ _ => False
def sPick : List (List (Str × Bool) × SF) → Str → Option (Option SF)
  | [], _ => some none
  | (t, u) :: r, c => match t.lookup c with
    | none => none
    | some true => some (some u)
    | some false => sPick r c
def sTry (t : SF) (l : List (List (Str × Bool) × SF)) : SF := fun Γ S => match t Γ S with
  | .ex c fs Γ1 S1 => match sPick l c with
    | none => .bad
    | some none => .ex c fs Γ1 S1
    | some (some u) => match u Γ1 S1 with
      | .ex _ _ _ _ => .bad
      | r => r
  | r => r
/-- the clauses: the classes that each one knows -/
inductive Hds (X : Cx) : List ExceptHandler → List (List (Str × Bool) × SF) → Prop
  | nil : Hds X [] []
  | cons {x : Str} {C : Addr} {tbl : List (Str × Bool)} {t : SF} {b₀ : Stmt} {suite : List Stmt} {np pos' : Pos} {hds : List ExceptHandler} {l : List (List (Str × Bool) × SF)} (hg : Gl X x) (hdb : (x == ("__debug__" : Str)) = false) (hm : X.mg x = some (.ref C))
      (ht : ∀ c b cls, tbl.lookup c = some b → X.mg c = some cls → PySem.W.exmOne X.K cls (.ref C) = some b)
      (hs : ∀ a oe pn, Ss (X.suite a ((a, oe) :: pn)) WN (b₀ :: suite) t) (r : Hds X hds l) :
      Hds X (.ExceptHandler (some (.Name x np)) none (b₀ :: suite) pos' :: hds) ((tbl, t) :: l)
theorem Hds.ok {hds : List ExceptHandler} {l : List (List (Str × Bool) × SF)} (h : Hds X hds l) : ∃ l', HdsOk X hds l' ∧ ∀ (c : Str) (fs : List (Str × PV)) (Γ : Gam) (S : Sto) (D : Ends) (H : Hp) (g : G) (σ : L2.St) (cls : Value) (d : Option Addr),
    Rel X H g S → RG X H g S.length Γ σ → RX X H g S.length c fs cls d → (match sPick l c with
      | none => False
      | some none => W cls d σ H
      | some (some u) => OKs X WN D H g S (u Γ S)) → wMany X.K W D l' cls d σ H := by
  induction h with
  | nil => exact ⟨[], .nil, fun c fs Γ S D H g σ cls d rel rg rx k => k⟩
  | cons hg hdb hm ht hs r ih =>
    rename_i x C tbl t b₀ suite np pos' hds l
    obtain ⟨l', h1, h2⟩ := ih
    refine ⟨(.ref C, fun a cls d => liftS X WN t) :: l', .cons ⟨hg, hdb, Or.inl hm⟩ (fun a oe cls d pn _ _ => hs a oe pn) h1, fun c fs Γ S D H g σ cls d rel rg rx k => ?_⟩
    unfold sPick at k
    cases e : tbl.lookup c with
    | none => rw [e] at k; exact k.elim
    | some b =>
      rw [e] at k
      refine ⟨b, ht c b cls e rx.1, fun hb a ha => ?_, fun hb => ?_⟩
      · subst hb; exact ⟨g, Γ, S, rel, rg, k⟩
      · subst hb; exact h2 c fs Γ S D H g σ cls d rel rg rx k
theorem Body.tr {N : List Str} {sc : Scope} {k : Nat} (b : Body X W N sc k) {W' : WX} {pn : List (Addr × Obj)} {xe : Value → Shared → Prop} (tk : Takes (X.tr pn xe) W') (po : PassesOwn (model X.prog X.w) X.A X.env xe) : Body (X.tr pn xe) W' N sc k :=
  ⟨b.hN, b.sc, b.calm, b.fn, b.room, tk, po, b.hs, b.hf⟩
theorem Body.try {N : List Str} {sc : Scope} {k : Nat} {body : List Stmt} {h₀ : ExceptHandler} {hds : List ExceptHandler} {t : SF} {l : List (List (Str × Bool) × SF)} {pos : Pos} (b : Body X W N sc k)
    (hb : ∀ (W' : WX) (pn : List (Addr × Obj)) (xe : Value → Shared → Prop), Body (X.tr pn xe) W' N sc k → Ss (X.tr pn xe) W' body t) (hh : Hds X (h₀ :: hds) l) : St X W (.Try body (h₀ :: hds) [] [] pos) (sTry t l) := by
  obtain ⟨l', h1, h2⟩ := hh.ok (W := W)
  refine ps_imp (ps_try_many (tb := fun W' => liftS X W' t) b.hs b.hf b.tk (fun W' pn xe tk po => hb W' pn xe (b.tr tk po)) h1) fun D σ H ⟨g, Γ, S, rel, rg, ok⟩ => ⟨g, Γ, S, rel, rg, ?_⟩
  unfold sTry at ok
  cases e : t Γ S with
  | nx Γ1 S1 => rw [e] at ok; exact ok
  | bk Γ1 S1 => rw [e] at ok; exact ok
  | ct Γ1 S1 => rw [e] at ok; exact ok
  | rt v S1 => rw [e] at ok; exact ok
  | bad => rw [e] at ok; exact ok
  | ex c fs Γ1 S1 =>
    rw [e] at ok
    dsimp only at ok
    intro g' H' σ' cls d ee rg' rx
    refine h2 c fs Γ1 S1 D H' g' σ' cls d ee.rel rg' rx ?_
    revert ok
    cases sPick l c with
    | none => exact fun z => z
    | some o => cases o with
      | none => exact fun z => z g' H' σ' cls d ee rg' rx
      | some u =>
        dsimp only
        intro ok
        have ok' : OKs X W D H' g' S1 (match u Γ1 S1 with | .ex _ _ _ _ => RS.bad | r => r) := OKs.cont ee ok
        revert ok'
        cases u Γ1 S1 <;> first | exact fun z => z | exact fun z => False.elim z
/-- name = e, in an except suite -/
theorem Body.suSet {N : List Str} {sc : Scope} {k : Nat} (b : Body X W N sc k) (nd : N.Nodup) (i : Nat) (x : Str) {e : Expr} {te : EF} {pos pos' : Pos} (h : slT N sc i x = true) {a : Addr} {pn : List (Addr × Obj)} (he : E (X.suite a pn) WN e te)
    (hs : swapsWith e (some (.Name x pos')) pos.line X.env = pure false := by rfl) : St (X.suite a pn) WN (.Assign [.Name x pos'] e pos) (sSet i te) := by
  have b1 := b.hN
  have b2 := b.sc
  subst b1 b2
  obtain ⟨h1, h2⟩ := slT_ok h
  exact St.set (X := X.suite a pn) (fun he => ps_set nd h1 h2 he hs (.inl (b.fn x))) he
end Pv
namespace Pv
open PySem PySem.Spec PyProof.Rows L2
/-! what the head says of exception classes -/
def excB (K : PySem.W.Frag) (x : Str) : Bool := He.Fa.ok K (.exc x) && He.Fa.ok K (.glo x)
theorem excB_ok {K : PySem.W.Frag} {h : Heap} {mg : Str → Option Value} {x : Str} (Y : K.In h) (G : h.Ns mainGlobals mg) (c : excB K x = true) : ExcC K mg x (He.ga K x) := by
  obtain ⟨c1, c2⟩ := He.ba c
  obtain ⟨e1, e2, e3, e4⟩ := He.exc_ok c1
  exact ⟨He.glo_ok Y G c2, e1, e2, e3, e4⟩
/-- the clause «except y»: what it says of errors of the named classes -/
def ExmT (K : PySem.W.Frag) (mg : Str → Option Value) (y : Str) (tbl : List (Str × Bool)) : Prop := mg y = some (.ref (He.ga K y)) ∧ ∀ c b cls, tbl.lookup c = some b → mg c = some cls → PySem.W.exmOne K cls (.ref (He.ga K y)) = some b
def exmB (K : PySem.W.Frag) (y : Str) (tbl : List (Str × Bool)) : Bool := He.Fa.ok K (.glo y) && tbl.all fun p => He.Fa.ok K (.exm p.1 y p.2) && He.Fa.ok K (.glo p.1)
theorem exmB_ok {K : PySem.W.Frag} {h : Heap} {mg : Str → Option Value} {y : Str} {tbl : List (Str × Bool)} (Y : K.In h) (G : h.Ns mainGlobals mg) (c : exmB K y tbl = true) : ExmT K mg y tbl := by
  obtain ⟨c1, c2⟩ := He.ba c
  refine ⟨He.glo_ok Y G c1, fun x b cls e m => ?_⟩
  have hm : (x, b) ∈ tbl := by
    clear c c2
    induction tbl with
    | nil => cases e
    | cons q r ih =>
      obtain ⟨q1, q2⟩ := q
      rw [List.lookup_cons] at e
      split at e
      · rename_i z
        cases e
        rw [eq_of_beq z]
        exact List.mem_cons_self
      · exact List.mem_cons_of_mem _ (ih e)
  obtain ⟨z1, z2⟩ := He.ba (List.all_eq_true.mp c2 _ hm)
  have := He.glo_ok Y G z2
  rw [this] at m
  cases m
  exact He.exm_ok z1
/-- an error class with its own __init__ over one field f, which the class itself doesn't name -/
def oexO (C : Addr) (o : Option Obj) : Bool := match o with
  | some ⟨.type "type", _, .cls cd, sl⟩ => (match cd.mro, sl.toList with
    | .ref C' :: bm, [_, _, _, _, some (.builtin n), _] => decide (C' = C) && (decide (n = "ValueError.__new__") && (cd.hasDict && (!cd.hasDel && PySem.HandSPX.refsVE bm)))
    | _, _ => false)
  | _ => false
def oexB (K : PySem.W.Frag) (x f : Str) : Bool := oexO (He.ga K x) (K.lookup (He.ga K x)) && (He.Fa.ok K (.glo x) && (He.Fa.ok K (.noat x f) && (He.Fa.ok K (.meth x "__init__") && (PySem.W.keepIn K (.ref (He.ga K x)) &&
  (decide (PySem.W.findIn K (.ref (He.ga K x)) "__setattr__" = some (some (.builtin "object.__setattr__"))) && (decide (PySem.W.subIn K (.ref (He.ga K x)) (.type "BaseException") = some true) && (decide (PySem.W.typeIn K (.ref (He.ga K x)) = some (.type "type")) && decide (PySem.W.typeIn K (.ref (He.ma K (He.ga K x) "__init__")) = some (.type "function")))))))))
structure OexF (K : PySem.W.Frag) (mg : Str → Option Value) (x f : Str) : Prop where
  g : mg x = some (.ref (He.ga K x))
  o : OexC K (He.ga K x)
  no : PySem.W.findIn K (.ref (He.ga K x)) f = some none
  i : PySem.W.findIn K (.ref (He.ga K x)) "__init__" = some (some (.ref (He.ma K (He.ga K x) "__init__")))
  t : PySem.W.typeIn K (.ref (He.ma K (He.ga K x) "__init__")) = some (.type "function")
theorem oexB_ok {K : PySem.W.Frag} {h : Heap} {mg : Str → Option Value} {x f : Str} (Y : K.In h) (G : h.Ns mainGlobals mg) (c : oexB K x f = true) : OexF K mg x f := by
  obtain ⟨c1, c⟩ := He.ba c
  obtain ⟨c2, c⟩ := He.ba c
  obtain ⟨c3, c⟩ := He.ba c
  obtain ⟨c4, c⟩ := He.ba c
  obtain ⟨c5, c⟩ := He.ba c
  obtain ⟨c6, c⟩ := He.ba c
  obtain ⟨c7, c⟩ := He.ba c
  obtain ⟨c8, c9⟩ := He.ba c
  refine ⟨He.glo_ok Y G c2, ⟨?_, of_decide_eq_true c6, of_decide_eq_true c7, of_decide_eq_true c8, c5⟩, He.noat_ok c3, (He.meth_ok c4).1, of_decide_eq_true c9⟩
  unfold oexO at c1
  split at c1
  · rename_i dd cd sl ho
    split at c1
    · rename_i C' bm k0 k1 k2 k3 n k5 hm hs
      simp only [Bool.and_eq_true, decide_eq_true_eq, Bool.not_eq_true'] at c1
      obtain ⟨hc, hn, hd', hdel, ht⟩ := c1
      subst hc hn
      obtain ⟨nm, bs, mro, ns, qn, hd, sn, sub, ab, col, del⟩ := cd
      dsimp only at hm hdel hd'
      subst hm hdel hd'
      have hsl : sl = #[k0, k1, k2, k3, some (.builtin "ValueError.__new__"), k5] := by
        obtain ⟨l⟩ := sl
        simp only at hs
        rw [hs]
      subst hsl
      exact ⟨nm, qn, ns, bs, bm, sn, sub, ab, col, dd, k0, k1, k2, k3, k5, ho, ht⟩
    · cases c1
  · cases c1
/-- the whole of it, with the def __init__ -/
theorem OexF.ok {P : Program} {w : World} {K : PySem.W.Frag} {mg : Str → Option Value} {base : Heap} {x f qual : Str} (T : OexF K mg x f) {st : Stmt} {dvs : List V} {kws : List (Str × V)} {fd : FuncData} {p1 p2 p3 p4 : Pos}
    (F : FunD K "__init__" qual (defArgs st) (defBody st) (defScope st) dvs kws (He.ma K (He.ga K x) "__init__") fd) (bn : Binds K fd ["self", f] []) (S : FnScope ["self", f] ["self", f] (defScope st)) (hb : defBody st = [.Assign [.Attribute (.Name "self" p1) f p2] (.Name f p3) p4])
    (l1 : slC ["self", f] (defScope st) 0 "self" = true) (l2 : slC ["self", f] (defScope st) 1 f = true) : ExcI P w K mg base x f (He.ga K x) :=
  ⟨T.g, T.o, _, fd, ["self", f], T.i, T.t, ini1_ok (p1 := p1) (p2 := p2) (p3 := p3) (p4 := p4) (p5 := p1) (p6 := p1) F S hb l1 l2 T.o T.no, bn⟩
end Pv
namespace Pv
open PySem
/-- the j-th row of a class -/
def clsS (s : Stmt) (j : Nat) : Stmt := match s with
  | .ClassDef (body := b) .. => b.getD j (.Pass ⟨0, 0, 0, 0⟩)
  | _ => .Pass ⟨0, 0, 0, 0⟩
end Pv

namespace Pv
open PySem PySem.Spec PyProof.Rows L2
/-! Taking a list apart; slices; o[i] op= e. -/
variable {X : Cx} {W : WX} {K : PySem.W.Frag} {mg : Str → Option Value}
/-- a, b, .. = a tuple or a list -/
def gU (is : List Nat) : GF := fun p Γ S => match deref S p with
  | some (.tup, xs) => gNs is xs Γ S
  | some (.lst, xs) => gNs is xs Γ S
  | _ => .bad
theorem Tg.un {es : List Expr} {pos : Pos} {is : List Nat} {k n : Nat} (hc : X.calm = true) (h : PGs X es (liftGs X W (gNs is))) (hi : is.length = n := by rfl) (hn : (assignEach es X.env).length = n := by rfl) (hst : (assignEach es X.env).findIdx? (·.1) = none := by rfl) :
    Tg X W (.Tuple es k pos) (gU is) := by
  refine ⟨fun pins s σ H v u Q I r hw => ?_⟩
  obtain ⟨g, Γ, S, p, rel, rg, rv, ok⟩ := hw
  unfold gU at ok
  have hlen : ∀ {xs : List PV}, OKw X W σ H g S (gNs is xs Γ S) (fun Γ' S' g' H' => ∀ σ', RG X H' g' S'.length Γ' σ' → Q σ' H') → xs.length = is.length := fun {xs} ok => by
    rcases gNs_ok is xs Γ S with ⟨Γ', q⟩ | q
    · exact gNs_len ⟨Γ', S, q⟩
    · rw [q] at ok; exact ok.elim
  split at ok
  · rename_i xs e
    obtain ⟨a, vs, rfl, h2, h3⟩ := deref_ok rel rv e
    exact (pg_tup hc h hn hst).run pins s σ H _ u Q I r ⟨a, vs, rfl, h3.tup, by rw [← h2.len, hlen ok, hi], g, Γ, S, xs, rel, rg, h2, ok⟩
  · rename_i xs e
    obtain ⟨a, vs, rfl, h2, h3⟩ := deref_ok rel rv e
    exact (pg_unl hc h hn hst).run pins s σ H _ u Q I r ⟨a, vs, rfl, h3.lst, by rw [← h2.len, hlen ok, hi], g, Γ, S, xs, rel, rg, h2, ok⟩
  · exact ok.elim
/-! slices -/
abbrev OFn := Gam → Sto → R (Option Int)
def oN : OFn := fun _ S => .ok none S
def oS (t : EF) : OFn := fun Γ S => (t Γ S).bind fun p S1 => match p with
  | .int i => .ok (some i) S1
  | _ => .bad
def liftO (X : Cx) (W : WX) (t : OFn) : TO := fun σ H Q => ∃ g Γ S, Rel X H g S ∧ RG X H g S.length Γ σ ∧ OKw X W σ H g S (t Γ S) fun o _ _ H' => Q o H'
def Po (X : Cx) (W : WX) (e : Option Expr) (t : OFn) : Prop := PO X e (liftO X W t)
theorem po_imp {e : Option Expr} {t t' : TO} (h : PO X e t) (k : ∀ σ H Q, t' σ H Q → t σ H Q) : PO X e t' := ⟨fun pins s σ H Q I q => h.run pins s σ H Q I (k σ H Q q)⟩
theorem Po.none : Po X W none oN := po_imp po_none fun σ H Q ⟨g, Γ, S, rel, rg, ok⟩ => OKw.ok rel ok
theorem Po.some {e : Expr} {t : EF} (h : E X W e t) : Po X W (some e) (oS t) := po_imp (po_some h) fun σ H Q ⟨g, Γ, S, rel, rg, ok⟩ => by
  refine ⟨g, Γ, S, rel, rg, OKw.mono (OKw.bind ok) fun p S1 g1 H1 _ e1 h1 x rx => ?_⟩
  split at h1
  · exact ⟨_, rx.int_inv, OKw.ok e1.rel h1⟩
  · exact h1.elim
def cutP (xs : List PV) (lo hi : Option Int) : List PV := (xs.drop (HT.sIx xs.length 0 lo)).take (HT.sIx xs.length xs.length hi - HT.sIx xs.length 0 lo)
theorem RVs.cut {Y : Kx} {H : Hp} {g : G} {L : Nat} {ps : List PV} {vs : List V} {lo hi : Option Int} (h : RVs Y H g L ps vs) : RVs Y H g L (cutP ps lo hi) (cutV vs lo hi) := by
  unfold cutP cutV
  rw [h.len]
  exact (h.drop _).take _
def slF (mu : Bool) (p : PV) (lo hi : Option Int) (S : Sto) : Option (PV × Sto) := match p with
  | .str z => if z.length ≤ sizeLine then some (.str (cutS z lo hi), S) else none
  | p => match deref S p with
    | some (.lst, xs) => some (newP mu .lst (cutP xs lo hi) S)
    | some (.tup, xs) => if HT.sIx xs.length 0 lo = 0 ∧ HT.sIx xs.length xs.length hi = xs.length then some (p, S) else some (.con .own .tup (cutP xs lo hi), S)
    | _ => none
def eSl (mu : Bool) (t : EF) (lo hi : OFn) : EF := fun Γ S => (t Γ S).bind fun p S1 => (lo Γ S1).bind fun l S2 => (hi Γ S2).bind fun u S3 => R.of (slF mu p l u S3)
def rSlAny (K : PySem.W.Frag) (x : V) (lo hi : Option Int) (H : Hp) (Q : VK) : Prop := rSlS x lo hi H Q ∨ rSlL K x lo hi H Q ∨ rSlA K x lo hi H Q
theorem sl_any : SlR X (rSlAny X.K) := SlR.or sl_str (SlR.or sl_list sl_tupA)
theorem E.sl (mu : Bool) {e : Expr} {lo hi : Option Expr} {t : EF} {tl th : OFn} {pos p2 : Pos} (he : E X W e t) (hl : Po X W lo tl) (hh : Po X W hi th) : E X W (.Subscript e (.Slice lo hi none p2) pos) (eSl mu t tl th) :=
  pe_imp (pe_slice sl_any he hl hh) fun σ H Q ⟨g, Γ, S, rel, rg, ok⟩ => by
    refine ⟨g, Γ, S, rel, rg, OKw.mono (OKw.bind ok) fun p S1 g1 H1 _ e1 h1 x rx => ?_⟩
    refine ⟨g1, Γ, S1, e1.rel, rg.up rel e1, OKw.mono (OKw.bind h1) fun l S2 g2 H2 _ e2 h2 => ?_⟩
    refine ⟨g2, Γ, S2, e2.rel, (rg.up rel e1).up e1.rel e2, OKw.mono (OKw.bind h2) fun u S3 g3 H3 _ e3 h3 => ?_⟩
    have rx3 := RV.up e2.rel e3 _ _ (RV.up e1.rel e2 _ _ rx)
    cases hw : slF mu p l u S3 with
    | none => rw [hw] at h3; exact h3.elim
    | some z =>
      obtain ⟨w, S4⟩ := z
      rw [hw] at h3
      unfold slF at hw
      split at hw
      · split at hw
        · rename_i hz
          cases hw
          exact Or.inl ⟨_, rx3.str_inv, hz, h3 g3 H3 (Ext.refl e3.rel) _ RV.str⟩
        · cases hw
      · split at hw
        · rename_i xs e
          obtain ⟨a, vs, rfl, k2, k3⟩ := deref_ok e3.rel rx3 e
          refine Or.inr (Or.inl ⟨a, vs, rfl, k3.lst, fun q hq => ?_⟩)
          obtain ⟨g4, n1, n2⟩ := new_ok (m := mu) (k := .lst) e3.rel hq (show HOof X.mg .lst _ _ from rfl) (by decide) (RVs.cut (lo := l) (hi := u) k2)
          simp only [Option.some.injEq] at hw
          rw [hw] at n1 n2
          exact h3 g4 _ n1 _ n2
        · rename_i xs e
          obtain ⟨a, vs, rfl, k2, k3⟩ := deref_ok e3.rel rx3 e
          refine Or.inr (Or.inr ⟨a, vs, rfl, k3.tup, ?_⟩)
          rw [← k2.len]
          split at hw
          · rename_i c
            cases hw
            exact ⟨fun _ => h3 g3 H3 (Ext.refl e3.rel) _ rx3, fun n => absurd c n⟩
          · rename_i c
            cases hw
            refine ⟨fun n => absurd n c, fun _ q hq => ?_⟩
            obtain ⟨n1, n2⟩ := newF_ok (k := .tup) e3.rel hq (show HOof X.mg .tup _ _ from rfl) (RVs.cut (lo := l) (hi := u) k2)
            exact h3 _ _ n1 _ n2
        · cases hw
/-! o[i] op= e -/
theorem get_list : PGet X (rIxL X.K) := by
  intro pins s σ H o i ov iv Q I rx ry h
  obtain ⟨p, xs, k, z, rfl, rfl, hq, he, q⟩ := h
  cases rx
  obtain ⟨t, rfl⟩ := ry
  obtain ⟨its, r, pl, hz⟩ := I.list hq
  obtain ⟨j, h1, h2, h3, h4, h5⟩ := atI_get he
  obtain ⟨w, ew, rw'⟩ := r.get h2
  have hl := r.length
  have hn := line63
  have fin : EP X pins σ Q w s := ⟨z, H, I, rw', q⟩
  by_cases h0 : 0 ≤ k
  · have hj : k.toNat = j := by
      rw [seqIndex_of h0 h5] at h1
      exact Option.some.inj h1
    exact wpAny_getItem_list pl.isList h0 (by omega) (by rw [hj]; simpa using ew) fin
  · have hj : (k + (its.toArray.size : Int)).toNat = j := by
      rw [seqIndex_neg (by omega) h4] at h1
      rw [List.size_toArray, ← hl]
      exact Option.some.inj h1
    exact wpAny_getItem_list_neg pl.isList (by omega) (by rw [List.size_toArray] <;> omega) (by omega) (by rw [hj]; simpa using ew) fin
def ixLB (S : Sto) (p q : PV) : Option PV := match q with
  | .int i => match deref S p with
    | some (.lst, xs) => L2.atI xs i
    | _ => none
  | _ => none
def sAugS (to ti : EF) (f : OF) (te : EF) : SF := fun Γ S => (to Γ S).st Γ fun o S1 => (ti Γ S1).st Γ fun i S2 => match ixLB S2 o i with
  | some x => (te Γ S2).st Γ fun y S3 => match f x y S3 with
    | some (z, S4) => match setLF o i z S4 with
      | some S5 => .nx Γ S5
      | none => .bad
    | none => .bad
  | none => .bad
theorem St.augS {o i e : Expr} {to ti te : EF} {op : Operator} {r : R2} {f : OF} {tpos pos : Pos} (ho : E X W o to) (hi : E X W i ti) (hp : PIp X op r) (hf : OpF X r f) (he : E X W e te)
    (ha : ∀ ov iv new, augStore i ov iv new = (do holding [new, ov, iv] (setItem ov iv new); release [new, ov, iv] []; pure .next) := by intros; rfl) : St X W (.AugAssign (.Subscript o i tpos) op e pos) (sAugS to ti f te) :=
  ps_imp (ps_augS ho hi get_list he hp set_list ha) fun D σ H ⟨g, Γ, S, rel, rg, ok⟩ => by
    refine ⟨g, Γ, S, rel, rg, OKw.mono (OKs.st rel rg ok) fun ov S1 g1 H1 _ e1 h1 x rx => ?_⟩
    have rg1 := rg.up rel e1
    refine ⟨g1, Γ, S1, e1.rel, rg1, OKw.mono (OKs.st e1.rel rg1 h1) fun iv S2 g2 H2 _ e2 h2 y ry => ?_⟩
    have rg2 := rg1.up e1.rel e2
    have rx2 := RV.up e1.rel e2 _ _ rx
    split at h2
    · rename_i z hz
      unfold ixLB at hz
      split at hz
      · rename_i kk _
        split at hz
        · rename_i xs e
          obtain ⟨a, vs, rfl, k2, k3⟩ := deref_ok e2.rel rx2 e
          obtain ⟨zv, q1, q2⟩ := RVs.atI k2 hz
          refine ⟨a, vs, kk, zv, rfl, ry.int_inv, k3.lst, q1, ?_⟩
          refine ⟨g2, Γ, S2, e2.rel, rg2, OKw.mono (OKs.st e2.rel rg2 h2) fun u S3 g3 H3 _ e3 h3 v rv => ?_⟩
          split at h3
          · rename_i w S4 hw
            refine hf H3 g3 S3 z u zv v w S4 _ e3.rel (RV.up e2.rel e3 _ _ q2) rv hw fun g4 H4 wv e4 r4 => ?_
            split at h3
            · rename_i S5 hs
              refine set_lst H4 g4 S4 ov (.int kk) w (.ref a) y wv S5 _ e4.rel (RV.up e3.rel e4 _ _ (RV.up e2.rel e3 _ _ rx2)) ?_ r4 hs fun g5 H5 e5 => ?_
              · have := RV.up e3.rel e4 _ _ (RV.up e2.rel e3 _ _ ry); exact this
              · exact h3 g5 H5 σ (e4.trans e5) ((((rg2.up e2.rel e3).up e3.rel e4)).up e4.rel e5)
            · exact h3.elim
          · exact h3.elim
        · cases hz
      · cases hz
    · exact h2.elim
end Pv

namespace Pv
open PySem PySem.Spec PyProof.Rows L2
/-! More rules of evaluation; loops by what holds. -/
section
variable {Γ Γ' : Gam} {S S' : Sto} {p q : PV} {ps qs : List PV} {f : OF} {a b : EF} {tr : AF} {t u : SF} {c : BF} {k : Bool} {n i : Nat}
@[simp] theorem gU_tup {is : List Nat} {m : Md} : gU is (.con m .tup ps) Γ S = gNs is ps Γ S := (rfl)
@[simp] theorem gU_lst {is : List Nat} {m : Md} : gU is (.con m .lst ps) Γ S = gNs is ps Γ S := (rfl)
def gUD (is : List Nat) (Γ : Gam) (S : Sto) : Option (Kd × List PV) → R Gam
  | some (.lst, xs) => gNs is xs Γ S
  | some (.tup, xs) => gNs is xs Γ S
  | _ => .bad
theorem gU_ref {is : List Nat} : gU is (.ref n) Γ S = gUD is Γ S S[n]?.join := by
  unfold gU gUD; simp only [deref_ref] <;>
  rcases S[n]?.join with _ | ⟨k', xs'⟩ <;> first | rfl | (cases k' <;> rfl)
@[simp] theorem sTurn_U {is : List Nat} : sTurn (gU is) t p Γ S = (match gU is p Γ S with | .ok Γ1 S1 => t Γ1 S1 | .ex c fs S1 => .ex c fs Γ S1 | .bad => .bad) := by
  unfold sTurn; cases gU is p Γ S <;> rfl
def slK (mu : Bool) (lo hi : OFn) (Γ : Gam) (r : R PV) : R PV := r.bind fun p S1 => (lo Γ S1).bind fun l S2 => (hi Γ S2).bind fun u S3 => R.of (slF mu p l u S3)
@[simp] theorem eSl_eq {mu : Bool} {lo hi : OFn} : eSl mu a lo hi Γ S = slK mu lo hi Γ (a Γ S) := (rfl)
def slK2 (mu : Bool) (p : PV) (hi : OFn) (Γ : Gam) (r : R (Option Int)) : R PV := r.bind fun l S2 => (hi Γ S2).bind fun u S3 => R.of (slF mu p l u S3)
def slK3 (mu : Bool) (p : PV) (l : Option Int) (r : R (Option Int)) : R PV := r.bind fun u S3 => R.of (slF mu p l u S3)
@[simp] theorem slK_ok {mu : Bool} {lo hi : OFn} : slK mu lo hi Γ (.ok p S) = slK2 mu p hi Γ (lo Γ S) := (rfl)
@[simp] theorem slK2_ok {mu : Bool} {hi : OFn} {l : Option Int} : slK2 mu p hi Γ (.ok l S) = slK3 mu p l (hi Γ S) := (rfl)
@[simp] theorem slK3_ok {mu : Bool} {l h : Option Int} : slK3 mu p l (.ok h S) = R.of (slF mu p l h S) := (rfl)
@[simp] theorem oN_eq : oN Γ S = .ok none S := (rfl)
def oK (r : R PV) : R (Option Int) := r.bind fun p S1 => match p with
  | .int i => .ok (some i) S1
  | _ => .bad
@[simp] theorem oS_eq : oS a Γ S = oK (a Γ S) := (rfl)
@[simp] theorem oK_ok {j : Int} : oK (.ok (.int j) S) = .ok (some j) S := (rfl)
@[simp] theorem slF_lst {mu : Bool} {m : Md} {l h : Option Int} : slF mu (.con m .lst ps) l h S = some (newP mu .lst (cutP ps l h) S) := (rfl)
def augG (i : Nat) (f : OF) (a : EF) (Γ : Gam) (S : Sto) : Option (Option PV) → RS
  | some (some p) => augK i f p Γ (a Γ S)
  | _ => .bad
@[simp] theorem sAug_g : sAug i f a Γ S = augG i f a Γ S Γ[i]? := by
  unfold sAug augG
  rcases Γ[i]? with _ | _ | p <;> rfl
@[simp] theorem augG_some : augG i f a Γ S (some (some p)) = augK i f p Γ (a Γ S) := (rfl)
@[simp] theorem sRaise0_eq {x : Str} : sRaise0 x Γ S = .ex x [] Γ S := (rfl)
def rsK (x f : Str) (Γ : Gam) (r : R (List PV)) : RS := r.st Γ fun vs S1 => match vs with
  | [v] => .ex x [(f, v)] Γ S1
  | _ => .bad
@[simp] theorem sRaise1_eq {x f : Str} : sRaise1 x f tr Γ S = rsK x f Γ (tr Γ S) := (rfl)
@[simp] theorem rsK_ok {x f : Str} : rsK x f Γ (.ok [p] S) = .ex x [(f, p)] Γ S := (rfl)
def tryK (l : List (List (Str × Bool) × SF)) : RS → RS
  | .ex c fs Γ1 S1 => match sPick l c with
    | none => .bad
    | some none => .ex c fs Γ1 S1
    | some (some u) => match u Γ1 S1 with
      | .ex _ _ _ _ => .bad
      | r => r
  | r => r
@[simp] theorem sTry_eq {l : List (List (Str × Bool) × SF)} : sTry t l Γ S = tryK l (t Γ S) := by unfold sTry tryK; cases t Γ S <;> rfl
@[simp] theorem tryK_nx {l : List (List (Str × Bool) × SF)} : tryK l (.nx Γ S) = .nx Γ S := (rfl)
@[simp] theorem tryK_rt {l : List (List (Str × Bool) × SF)} : tryK l (.rt p S) = .rt p S := (rfl)
theorem tryK_ex {l : List (List (Str × Bool) × SF)} {c : Str} {fs : List (Str × PV)} (h : sPick l c = some (some u)) : tryK l (.ex c fs Γ S) = (match u Γ S with | .ex _ _ _ _ => .bad | r => r) := by unfold tryK; simp only [h]
@[simp] theorem divmodF_int {x y : Int} : divmodF [.int x, .int y] S = if CDiv x y then some (.con .own .tup [.int (x / y), .int (x % y)], S) else none := (rfl)
@[simp] theorem tupleF_lst {m : Md} : tupleF [.con m .lst ps] S = some (.con .own .tup ps, S) := (rfl)
@[simp] theorem tupleF_tup {m : Md} : tupleF [.con m .tup ps] S = some (.con m .tup ps, S) := (rfl)
@[simp] theorem truB_lst {m : Md} : truB S (.con m .lst ps) = some (!ps.isEmpty) := (rfl)
@[simp] theorem truB_tup {m : Md} : truB S (.con m .tup ps) = some (!ps.isEmpty) := (rfl)
def truD : Option (Kd × List PV) → Option Bool
  | some (.lst, xs) => some (!xs.isEmpty)
  | some (.tup, xs) => some (!xs.isEmpty)
  | _ => none
@[simp] theorem truB_refD : truB S (.ref n) = truD S[n]?.join := by
  unfold truB truD; simp only [deref_ref] <;>
  rcases S[n]?.join with _ | ⟨k', xs'⟩ <;> first | rfl | (cases k' <;> rfl)
@[simp] theorem truD_lst : truD (some (.lst, ps)) = some (!ps.isEmpty) := (rfl)
theorem clean_ints {m : Md} (hm : m ≠ .lent) {k : Kd} (l : List Int) : clean (.con m k (l.map PV.int)) = true := by
  have : cleans (l.map PV.int) = true := by
    induction l with
    | nil => rfl
    | cons a l ih => simp only [List.map_cons, cleans, clean, ih, Bool.and_self]
  cases m <;> simp_all [clean]
end
theorem frz_clean {n : Nat} {S : Sto} {p : PV} (h : clean p = true) : frzV (n + 1) S p = some p := by unfold frzV; rw [if_pos h]
theorem frz_cleans {n : Nat} {S : Sto} : ∀ {xs : List PV}, cleans xs = true → xs.mapM (frzV (n + 1) S) = some xs
  | [], _ => rfl
  | x :: xs, h => by
    simp only [cleans, Bool.and_eq_true] at h
    rw [List.mapM_cons, frz_clean h.1, frz_cleans h.2]; rfl
/-- a changing object handed out -/
theorem resP_ref {S : Sto} {n : Nat} {k : Kd} {xs : List PV} (h : S[n]? = some (some (k, xs))) (c : cleans xs = true) : resP S (.ref n) = .ok (.con .own k xs) := by
  unfold resP frzV
  simp [clean, h, frz_cleans (n := 7) c]
theorem cleans_ints (l : List Int) : cleans (l.map PV.int) = true := by
  induction l with
  | nil => rfl
  | cons a l ih => simp only [List.map_cons, cleans, clean, ih, Bool.and_self]
/-- a while: P m before the turn with m to go, R what is asked of the end -/
theorem whlN_ind {c : BF} {t : SF} (P : Nat → Gam → Sto → Prop) (R : RS → Prop)
    (step : ∀ m Γ S, P m Γ S → (∃ S1, c Γ S = .ok false S1 ∧ R (.nx Γ S1)) ∨ (∃ S1, c Γ S = .ok true S1 ∧ ((∃ m' Γ' S', m' < m ∧ t Γ S1 = .nx Γ' S' ∧ P m' Γ' S') ∨ (∃ v S', t Γ S1 = .rt v S' ∧ R (.rt v S')) ∨ (∃ x fs Γ' S', t Γ S1 = .ex x fs Γ' S' ∧ R (.ex x fs Γ' S'))))) :
    ∀ (n m : Nat) (Γ : Gam) (S : Sto), P m Γ S → m < n → R (whlN c t n Γ S)
  | 0, m, Γ, S, _, h => absurd h (Nat.not_lt_zero _)
  | n + 1, m, Γ, S, p, h => by
    unfold whlN
    rcases step m Γ S p with ⟨S1, e, r⟩ | ⟨S1, e, ⟨m', Γ', S', l, e2, p2⟩ | ⟨v, S', e2, r⟩ | ⟨x, fs, Γ', S', e2, r⟩⟩
    · rw [e]; simpa using r
    · rw [e]; simp only [rst_ok, if_true, e2]; exact whlN_ind P R step n m' Γ' S' p2 (by omega)
    · rw [e]; simpa [e2] using r
    · rw [e]; simpa [e2] using r
theorem sWhl_ind {c : BF} {t : SF} (P : Nat → Gam → Sto → Prop) (R : RS → Prop)
    (step : ∀ m Γ S, P m Γ S → (∃ S1, c Γ S = .ok false S1 ∧ R (.nx Γ S1)) ∨ (∃ S1, c Γ S = .ok true S1 ∧ ((∃ m' Γ' S', m' < m ∧ t Γ S1 = .nx Γ' S' ∧ P m' Γ' S') ∨ (∃ v S', t Γ S1 = .rt v S' ∧ R (.rt v S')) ∨ (∃ x fs Γ' S', t Γ S1 = .ex x fs Γ' S' ∧ R (.ex x fs Γ' S')))))
    {m : Nat} {Γ : Gam} {S : Sto} (h : P m Γ S) (hm : m < 1000000000000) : R (sWhl c t Γ S) := whlN_ind P R step fuel m Γ S h hm
/-- a walk that may end early -/
theorem forL_ind {body : PV → SF} (P : List PV → Gam → Sto → Prop) (R : RS → Prop) (h0 : ∀ Γ S, P [] Γ S → R (.nx Γ S))
    (step : ∀ p ps Γ S, P (p :: ps) Γ S → (∃ Γ' S', (body p Γ S = .nx Γ' S' ∨ body p Γ S = .ct Γ' S') ∧ P ps Γ' S') ∨ (∃ v S', body p Γ S = .rt v S' ∧ R (.rt v S')) ∨ (∃ x fs Γ' S', body p Γ S = .ex x fs Γ' S' ∧ R (.ex x fs Γ' S')) ∨ (∃ Γ' S', body p Γ S = .bk Γ' S' ∧ R (.nx Γ' S'))) :
    ∀ (ps : List PV) (Γ : Gam) (S : Sto), P ps Γ S → R (forL body ps Γ S)
  | [], Γ, S, h => h0 Γ S h
  | p :: ps, Γ, S, h => by
    rw [forL_cons]
    rcases step p ps Γ S h with ⟨Γ', S', e | e, h'⟩ | ⟨v, S', e, r⟩ | ⟨x, fs, Γ', S', e, r⟩ | ⟨Γ', S', e, r⟩
    · rw [e]; simpa using forL_ind P R h0 step ps Γ' S' h'
    · rw [e]; simpa using forL_ind P R h0 step ps Γ' S' h'
    · rw [e]; simpa using r
    · rw [e]; simpa using r
    · rw [e]; simpa using r
end Pv

namespace Pv
open PySem PySem.Spec PyProof.Rows L2
/-! Loops by index, by items. -/
/-- how a turn may end, by what is asked -/
def Trn (r : RS) (N : Gam → Sto → Prop) (R : RS → Prop) : Prop := match r with
  | .nx Γ S => N Γ S
  | .ct Γ S => N Γ S
  | .bk Γ S => R (.nx Γ S)
  | .rt v S => R (.rt v S)
  | .ex c fs Γ S => R (.ex c fs Γ S)
  | .bad => False
theorem Trn.mono {r : RS} {N N' : Gam → Sto → Prop} {R : RS → Prop} (h : Trn r N R) (k : ∀ Γ S, N Γ S → N' Γ S) : Trn r N' R := by
  cases r <;> first | exact k _ _ h | exact h
@[simp] theorem Trn_nx {Γ : Gam} {S : Sto} {N : Gam → Sto → Prop} {R : RS → Prop} : Trn (.nx Γ S) N R = N Γ S := (rfl)
@[simp] theorem Trn_ct {Γ : Gam} {S : Sto} {N : Gam → Sto → Prop} {R : RS → Prop} : Trn (.ct Γ S) N R = N Γ S := (rfl)
@[simp] theorem Trn_bk {Γ : Gam} {S : Sto} {N : Gam → Sto → Prop} {R : RS → Prop} : Trn (.bk Γ S) N R = R (.nx Γ S) := (rfl)
@[simp] theorem Trn_rt {v : PV} {S : Sto} {N : Gam → Sto → Prop} {R : RS → Prop} : Trn (.rt v S) N R = R (.rt v S) := (rfl)
@[simp] theorem Trn_ex {c : Str} {fs : List (Str × PV)} {Γ : Gam} {S : Sto} {N : Gam → Sto → Prop} {R : RS → Prop} : Trn (.ex c fs Γ S) N R = R (.ex c fs Γ S) := (rfl)
theorem forL_trn {body : PV → SF} {p : PV} {ps : List PV} {Γ : Gam} {S : Sto} {R : RS → Prop} (h : Trn (body p Γ S) (fun Γ S => R (forL body ps Γ S)) R) : R (forL body (p :: ps) Γ S) := by
  rw [forL_cons]
  cases e : body p Γ S <;> rw [e] at h <;> simp only [Trn, forK2] at h ⊢ <;> first | exact h | exact h.elim
/-- a walk over xs.map g: P of what is done, what is left -/
theorem forM_ind {α : Type} {body : PV → SF} (g : α → PV) (P : List α → List α → Gam → Sto → Prop) (R : RS → Prop) (step : ∀ d a r Γ S, P d (a :: r) Γ S → Trn (body (g a) Γ S) (P (d ++ [a]) r) R) (h0 : ∀ d Γ S, P d [] Γ S → R (.nx Γ S)) :
    ∀ (r d : List α) (Γ : Gam) (S : Sto), P d r Γ S → R (forL body (r.map g) Γ S)
  | [], d, Γ, S, h => h0 d Γ S h
  | a :: r, d, Γ, S, h => by
    rw [List.map_cons]
    exact forL_trn ((step d a r Γ S h).mono fun Γ' S' h' => forM_ind g P R step h0 r (d ++ [a]) Γ' S' h')
theorem intsF_succ {lo : Int} {n : Nat} : intsF lo (n + 1) = .int lo :: intsF (lo + 1) n := by
  unfold intsF
  rw [List.range_succ_eq_map, List.map_cons, List.map_map]
  congr 1
  · simp
  · apply List.map_congr_left
    intro i _
    simp only [Function.comp]
    congr 1
    omega
theorem forR_aux {body : PV → SF} (P : Nat → Gam → Sto → Prop) (R : RS → Prop) (n : Nat) (step : ∀ i Γ S, i < n → P i Γ S → Trn (body (.int i) Γ S) (P (i + 1)) R) (h0 : ∀ Γ S, P n Γ S → R (.nx Γ S)) :
    ∀ (m i : Nat) (Γ : Gam) (S : Sto), i + m = n → P i Γ S → R (forL body (intsF i m) Γ S)
  | 0, i, Γ, S, e, h => by
    have : i = n := by omega
    subst this
    exact h0 Γ S h
  | m + 1, i, Γ, S, e, h => by
    rw [intsF_succ]
    refine forL_trn ((step i Γ S (by omega) h).mono fun Γ' S' h' => ?_)
    have := forR_aux P R n step h0 m (i + 1) Γ' S' (by omega) h'
    simpa using this
/-- a walk over range(n): P i before the turn i -/
theorem forR_ind {body : PV → SF} (P : Nat → Gam → Sto → Prop) (R : RS → Prop) {n : Nat} (step : ∀ i Γ S, i < n → P i Γ S → Trn (body (.int i) Γ S) (P (i + 1)) R) (h0 : ∀ Γ S, P n Γ S → R (.nx Γ S)) {Γ : Gam} {S : Sto} (h : P 0 Γ S) : R (forL body (intsF 0 n) Γ S) :=
  forR_aux P R n step h0 n 0 Γ S (by omega) h
/-- a while: P m before the turn, with m to go -/
theorem whl_ind {c : BF} {t : SF} (P : Nat → Gam → Sto → Prop) (R : RS → Prop)
    (step : ∀ m Γ S, P m Γ S → (∃ S1, c Γ S = .ok false S1 ∧ R (.nx Γ S1)) ∨ (∃ S1, c Γ S = .ok true S1 ∧ Trn (t Γ S1) (fun Γ' S' => ∃ m', m' < m ∧ P m' Γ' S') R)) :
    ∀ (n m : Nat) (Γ : Gam) (S : Sto), P m Γ S → m < n → R (whlN c t n Γ S)
  | 0, m, Γ, S, _, h => absurd h (Nat.not_lt_zero _)
  | n + 1, m, Γ, S, p, h => by
    unfold whlN
    rcases step m Γ S p with ⟨S1, e, r⟩ | ⟨S1, e, h2⟩
    · rw [e]; simpa using r
    · rw [e]
      simp only [rst_ok, if_true]
      cases e2 : t Γ S1 <;> rw [e2] at h2 <;> simp only [Trn] at h2
      · obtain ⟨m', l, p'⟩ := h2; exact whl_ind P R step n m' _ _ p' (by omega)
      · exact h2
      · exact h2
      · obtain ⟨m', l, p'⟩ := h2; exact whl_ind P R step n m' _ _ p' (by omega)
      · exact h2
theorem sWhl_ind2 {c : BF} {t : SF} (P : Nat → Gam → Sto → Prop) (R : RS → Prop)
    (step : ∀ m Γ S, P m Γ S → (∃ S1, c Γ S = .ok false S1 ∧ R (.nx Γ S1)) ∨ (∃ S1, c Γ S = .ok true S1 ∧ Trn (t Γ S1) (fun Γ' S' => ∃ m', m' < m ∧ P m' Γ' S') R))
    {m : Nat} {Γ : Gam} {S : Sto} (h : P m Γ S) (hm : m < 1000000000000) : R (sWhl c t Γ S) := whl_ind P R step fuel m Γ S h hm
/-! isinstance of built-in types -/
@[simp] theorem isi_non_int {S : Sto}  : isiF [.non, .ty "int"] S = some (.bl false, S) := by
  show (if kitB "NoneType" "int" = some (isiB "NoneType" "int") then some (PV.bl (isiB "NoneType" "int"), S) else none) = _
  rw [if_pos (by decide)]; rfl
@[simp] theorem isi_non_bool {S : Sto}  : isiF [.non, .ty "bool"] S = some (.bl false, S) := by
  show (if kitB "NoneType" "bool" = some (isiB "NoneType" "bool") then some (PV.bl (isiB "NoneType" "bool"), S) else none) = _
  rw [if_pos (by decide)]; rfl
@[simp] theorem isi_non_str {S : Sto}  : isiF [.non, .ty "str"] S = some (.bl false, S) := by
  show (if kitB "NoneType" "str" = some (isiB "NoneType" "str") then some (PV.bl (isiB "NoneType" "str"), S) else none) = _
  rw [if_pos (by decide)]; rfl
@[simp] theorem isi_non_tuple {S : Sto}  : isiF [.non, .ty "tuple"] S = some (.bl false, S) := by
  show (if kitB "NoneType" "tuple" = some (isiB "NoneType" "tuple") then some (PV.bl (isiB "NoneType" "tuple"), S) else none) = _
  rw [if_pos (by decide)]; rfl
@[simp] theorem isi_non_list {S : Sto}  : isiF [.non, .ty "list"] S = some (.bl false, S) := by
  show (if kitB "NoneType" "list" = some (isiB "NoneType" "list") then some (PV.bl (isiB "NoneType" "list"), S) else none) = _
  rw [if_pos (by decide)]; rfl
@[simp] theorem isi_bl_int {S : Sto} {k : Bool} : isiF [.bl k, .ty "int"] S = some (.bl true, S) := by
  show (if kitB "bool" "int" = some (isiB "bool" "int") then some (PV.bl (isiB "bool" "int"), S) else none) = _
  rw [if_pos (by decide)]; rfl
@[simp] theorem isi_bl_bool {S : Sto} {k : Bool} : isiF [.bl k, .ty "bool"] S = some (.bl true, S) := by
  show (if kitB "bool" "bool" = some (isiB "bool" "bool") then some (PV.bl (isiB "bool" "bool"), S) else none) = _
  rw [if_pos (by decide)]; rfl
@[simp] theorem isi_bl_str {S : Sto} {k : Bool} : isiF [.bl k, .ty "str"] S = some (.bl false, S) := by
  show (if kitB "bool" "str" = some (isiB "bool" "str") then some (PV.bl (isiB "bool" "str"), S) else none) = _
  rw [if_pos (by decide)]; rfl
@[simp] theorem isi_bl_tuple {S : Sto} {k : Bool} : isiF [.bl k, .ty "tuple"] S = some (.bl false, S) := by
  show (if kitB "bool" "tuple" = some (isiB "bool" "tuple") then some (PV.bl (isiB "bool" "tuple"), S) else none) = _
  rw [if_pos (by decide)]; rfl
@[simp] theorem isi_bl_list {S : Sto} {k : Bool} : isiF [.bl k, .ty "list"] S = some (.bl false, S) := by
  show (if kitB "bool" "list" = some (isiB "bool" "list") then some (PV.bl (isiB "bool" "list"), S) else none) = _
  rw [if_pos (by decide)]; rfl
@[simp] theorem isi_int_int {S : Sto} {k : Int} : isiF [.int k, .ty "int"] S = some (.bl true, S) := by
  show (if kitB "int" "int" = some (isiB "int" "int") then some (PV.bl (isiB "int" "int"), S) else none) = _
  rw [if_pos (by decide)]; rfl
@[simp] theorem isi_int_bool {S : Sto} {k : Int} : isiF [.int k, .ty "bool"] S = some (.bl false, S) := by
  show (if kitB "int" "bool" = some (isiB "int" "bool") then some (PV.bl (isiB "int" "bool"), S) else none) = _
  rw [if_pos (by decide)]; rfl
@[simp] theorem isi_int_str {S : Sto} {k : Int} : isiF [.int k, .ty "str"] S = some (.bl false, S) := by
  show (if kitB "int" "str" = some (isiB "int" "str") then some (PV.bl (isiB "int" "str"), S) else none) = _
  rw [if_pos (by decide)]; rfl
@[simp] theorem isi_int_tuple {S : Sto} {k : Int} : isiF [.int k, .ty "tuple"] S = some (.bl false, S) := by
  show (if kitB "int" "tuple" = some (isiB "int" "tuple") then some (PV.bl (isiB "int" "tuple"), S) else none) = _
  rw [if_pos (by decide)]; rfl
@[simp] theorem isi_int_list {S : Sto} {k : Int} : isiF [.int k, .ty "list"] S = some (.bl false, S) := by
  show (if kitB "int" "list" = some (isiB "int" "list") then some (PV.bl (isiB "int" "list"), S) else none) = _
  rw [if_pos (by decide)]; rfl
@[simp] theorem isi_str_int {S : Sto} {k : Str} : isiF [.str k, .ty "int"] S = some (.bl false, S) := by
  show (if kitB "str" "int" = some (isiB "str" "int") then some (PV.bl (isiB "str" "int"), S) else none) = _
  rw [if_pos (by decide)]; rfl
@[simp] theorem isi_str_bool {S : Sto} {k : Str} : isiF [.str k, .ty "bool"] S = some (.bl false, S) := by
  show (if kitB "str" "bool" = some (isiB "str" "bool") then some (PV.bl (isiB "str" "bool"), S) else none) = _
  rw [if_pos (by decide)]; rfl
@[simp] theorem isi_str_str {S : Sto} {k : Str} : isiF [.str k, .ty "str"] S = some (.bl true, S) := by
  show (if kitB "str" "str" = some (isiB "str" "str") then some (PV.bl (isiB "str" "str"), S) else none) = _
  rw [if_pos (by decide)]; rfl
@[simp] theorem isi_str_tuple {S : Sto} {k : Str} : isiF [.str k, .ty "tuple"] S = some (.bl false, S) := by
  show (if kitB "str" "tuple" = some (isiB "str" "tuple") then some (PV.bl (isiB "str" "tuple"), S) else none) = _
  rw [if_pos (by decide)]; rfl
@[simp] theorem isi_str_list {S : Sto} {k : Str} : isiF [.str k, .ty "list"] S = some (.bl false, S) := by
  show (if kitB "str" "list" = some (isiB "str" "list") then some (PV.bl (isiB "str" "list"), S) else none) = _
  rw [if_pos (by decide)]; rfl
@[simp] theorem isi_lst_int {S : Sto} {m : Md} {xs : List PV} : isiF [.con m .lst xs, .ty "int"] S = some (.bl false, S) := by
  show (if kitB "list" "int" = some (isiB "list" "int") then some (PV.bl (isiB "list" "int"), S) else none) = _
  rw [if_pos (by decide)]; rfl
@[simp] theorem isi_lst_bool {S : Sto} {m : Md} {xs : List PV} : isiF [.con m .lst xs, .ty "bool"] S = some (.bl false, S) := by
  show (if kitB "list" "bool" = some (isiB "list" "bool") then some (PV.bl (isiB "list" "bool"), S) else none) = _
  rw [if_pos (by decide)]; rfl
@[simp] theorem isi_lst_str {S : Sto} {m : Md} {xs : List PV} : isiF [.con m .lst xs, .ty "str"] S = some (.bl false, S) := by
  show (if kitB "list" "str" = some (isiB "list" "str") then some (PV.bl (isiB "list" "str"), S) else none) = _
  rw [if_pos (by decide)]; rfl
@[simp] theorem isi_lst_tuple {S : Sto} {m : Md} {xs : List PV} : isiF [.con m .lst xs, .ty "tuple"] S = some (.bl false, S) := by
  show (if kitB "list" "tuple" = some (isiB "list" "tuple") then some (PV.bl (isiB "list" "tuple"), S) else none) = _
  rw [if_pos (by decide)]; rfl
@[simp] theorem isi_lst_list {S : Sto} {m : Md} {xs : List PV} : isiF [.con m .lst xs, .ty "list"] S = some (.bl true, S) := by
  show (if kitB "list" "list" = some (isiB "list" "list") then some (PV.bl (isiB "list" "list"), S) else none) = _
  rw [if_pos (by decide)]; rfl
@[simp] theorem isi_tup_int {S : Sto} {m : Md} {xs : List PV} : isiF [.con m .tup xs, .ty "int"] S = some (.bl false, S) := by
  show (if kitB "tuple" "int" = some (isiB "tuple" "int") then some (PV.bl (isiB "tuple" "int"), S) else none) = _
  rw [if_pos (by decide)]; rfl
@[simp] theorem isi_tup_bool {S : Sto} {m : Md} {xs : List PV} : isiF [.con m .tup xs, .ty "bool"] S = some (.bl false, S) := by
  show (if kitB "tuple" "bool" = some (isiB "tuple" "bool") then some (PV.bl (isiB "tuple" "bool"), S) else none) = _
  rw [if_pos (by decide)]; rfl
@[simp] theorem isi_tup_str {S : Sto} {m : Md} {xs : List PV} : isiF [.con m .tup xs, .ty "str"] S = some (.bl false, S) := by
  show (if kitB "tuple" "str" = some (isiB "tuple" "str") then some (PV.bl (isiB "tuple" "str"), S) else none) = _
  rw [if_pos (by decide)]; rfl
@[simp] theorem isi_tup_tuple {S : Sto} {m : Md} {xs : List PV} : isiF [.con m .tup xs, .ty "tuple"] S = some (.bl true, S) := by
  show (if kitB "tuple" "tuple" = some (isiB "tuple" "tuple") then some (PV.bl (isiB "tuple" "tuple"), S) else none) = _
  rw [if_pos (by decide)]; rfl
@[simp] theorem isi_tup_list {S : Sto} {m : Md} {xs : List PV} : isiF [.con m .tup xs, .ty "list"] S = some (.bl false, S) := by
  show (if kitB "tuple" "list" = some (isiB "tuple" "list") then some (PV.bl (isiB "tuple" "list"), S) else none) = _
  rw [if_pos (by decide)]; rfl
end Pv

namespace Pv
open PySem PySem.Spec PyProof.Rows L2
section
variable {X : Cx} {Γ : Gam} {S : Sto}
/-! name += e: ints, texts -/
def addA : OF := fun p q S => match p, q with
  | .int i, .int j => some (.int (i + j), S)
  | .str a, .str b => if a.length + b.length ≤ sizeLine then some (.str (a ++ b), S) else none
  | _, _ => none
def rAddA : R2 := fun x y H Q => rI0 (fun i j => .int (i + j)) x y H Q ∨ rAddS x y H Q
theorem pip_addA : PIp X .Add rAddA := fun pins s σ H x y v u Q I rx ry h => by
  rcases h with ⟨i, j, e1, e2, q⟩ | h
  · exact ip_add pins s σ H x y v u Q I rx ry ⟨i, j, e1, e2, q⟩
  · exact in_addS pins s σ H x y v u Q I rx ry h
theorem opf_addA : OpF X rAddA addA := by
  intro H g S p q x y w S' Q rel rx ry h k
  unfold addA at h
  split at h
  · simp only [Option.some.injEq, Prod.mk.injEq] at h
    obtain ⟨rfl, rfl⟩ := h
    exact Or.inl ⟨_, _, rx.int_inv, ry.int_inv, k g H _ (Ext.refl rel) RV.int⟩
  · split at h
    · simp only [Option.some.injEq, Prod.mk.injEq] at h
      obtain ⟨rfl, rfl⟩ := h
      exact Or.inr ⟨_, _, rx.str_inv, ry.str_inv, by assumption, k g H _ (Ext.refl rel) RV.str⟩
    · cases h
  · cases h
@[simp] theorem addA_int {i j : Int} : addA (.int i) (.int j) S = some (.int (i + j), S) := (rfl)
@[simp] theorem addA_str {a b : Str} : addA (.str a) (.str b) S = if a.length + b.length ≤ sizeLine then some (.str (a ++ b), S) else none := (rfl)
/-! range(i, j) -/
def r2K (r : R (List PV)) : R (Stp × Nat) := r.bind fun ps S1 => match ps with
  | [.int i, .int j] => if -(2 ^ 62) ≤ i ∧ i < 2 ^ 62 ∧ -(2 ^ 62) ≤ j ∧ j < 2 ^ 62 then .ok (stL (intsF i (j - i).toNat), (j - i).toNat + 1) S1 else .bad
  | _ => .bad
@[simp] theorem iR2_eq {tr : AF} : iR2 tr Γ S = r2K (tr Γ S) := (rfl)
theorem r2K_ok {i j : Int} (h : -(2 ^ 62) ≤ i ∧ i < 2 ^ 62 ∧ -(2 ^ 62) ≤ j ∧ j < 2 ^ 62) : r2K (.ok [.int i, .int j] S) = .ok (stL (intsF i (j - i).toNat), (intsF i (j - i).toNat).length + 1) S := by
  rw [intsF_len]
  exact if_pos h
theorem r2K_nat {i n : Nat} (h : i + n < 1000000000000) : r2K (.ok [.int i, .int (i + n : Nat)] S) = .ok (stL (intsF i n), (intsF i n).length + 1) S := by
  rw [r2K_ok ⟨by omega, by omega, by omega, by omega⟩]
  have : (((i + n : Nat) : Int) - i).toNat = n := by omega
  rw [this]
def tupD (S : Sto) : Option (Kd × List PV) → Option (PV × Sto)
  | some (.lst, xs) => some (.con .own .tup xs, S)
  | _ => none
@[simp] theorem tupleF_refD {n : Nat} : tupleF [.ref n] S = tupD S S[n]?.join := by
  unfold tupleF tupD; simp only [deref_ref] <;>
  rcases S[n]?.join with _ | ⟨k', xs'⟩ <;> first | rfl | (cases k' <;> rfl)
@[simp] theorem tupD_lst {ps : List PV} : tupD S (some (.lst, ps)) = some (.con .own .tup ps, S) := (rfl)
/-- it raises so -/
def Rx (r : RS) (c : Str) (fs : List (Str × PV)) : Prop := match r with
  | .ex c' fs' _ _ => c' = c ∧ fs' = fs
  | _ => False
@[simp] theorem Rx_ex {c c' : Str} {fs fs' : List (Str × PV)} : Rx (.ex c' fs' Γ S) c fs = (c' = c ∧ fs' = fs) := (rfl)
theorem Rx.out {r : RS} {c : Str} {fs : List (Str × PV)} (h : Rx r c fs) : ∃ Γ S, r = .ex c fs Γ S := by
  cases r <;> simp [Rx] at h
  obtain ⟨rfl, rfl⟩ := h
  exact ⟨_, _, rfl⟩
end
end Pv

/-! Pv18: several except clauses, some with a name. -/
namespace Pv
open PySem PySem.Spec PyProof.Rows L2
/-- a clause: its class, the slot of its name, its suite -/
abbrev Cls3 := Value × Option Nat × (Addr → Value → Option Addr → TS)
def offE (D : Ends) (i : Nat) : Ends := ⟨fun σ H => D.nx (σ.set i none) H, D.rt, fun σ H => D.bk (σ.set i none) H, fun σ H => D.ct (σ.set i none) H⟩
def runC (D : Ends) (o : Option Nat) (ts : TS) (a : Addr) (σ : L2.St) (H : Hp) : Prop := match o with
  | none => ts D σ H
  | some i => ts (offE D i) (σ.set i (some (.ref a))) H
/-- what the clauses ask, in their order -/
def wSeq (K : PySem.W.Frag) (Wo : WX) (D : Ends) : List Cls3 → WX
  | [] => Wo
  | q :: qs => fun cls d σ H => ∃ b, PySem.W.exmOne K cls q.1 = some b ∧
      (b = true → ∀ a, H a = none → runC D q.2.1 (q.2.2 a cls d) a σ H) ∧
      (b = false → wSeq K Wo D qs cls d σ H)
abbrev SuOk (X : Cx) (suite : List Stmt) (ts : Addr → Value → Option Addr → TS) : Prop :=
  ∀ (a : Addr) (oe : Obj) (cls : Value) (d : Option Addr) (pn : List (Addr × Obj)),
    Zc cls d oe → (∃ vs, oe.data = .fields vs) → PSs (X.suite a ((a, oe) :: pn)) suite (ts a cls d)
inductive ClOk (X : Cx) : List ExceptHandler → List Cls3 → Prop
  | nil : ClOk X [] []
  | plain {x : Str} {c : Value} {ts : Addr → Value → Option Addr → TS} {b : Stmt} {bs : List Stmt} {p1 p2 : Pos}
      {hds : List ExceptHandler} {l : List Cls3} (hc : Names X x c) (su : SuOk X (b :: bs) ts) (r : ClOk X hds l) :
      ClOk X (.ExceptHandler (some (.Name x p1)) none (b :: bs) p2 :: hds) ((c, none, ts) :: l)
  | named {x n : Str} {i : Nat} {c : Value} {ts : Addr → Value → Option Addr → TS} {b : Stmt} {bs : List Stmt} {p1 p2 : Pos}
      {hds : List ExceptHandler} {l : List Cls3} (hN : X.N.Nodup) (hi : X.N[i]? = some n) (hl : X.env.kindOf n = some .local)
      (hc : Names X x c) (su : SuOk X (b :: bs) ts) (r : ClOk X hds l) :
      ClOk X (.ExceptHandler (some (.Name x p1)) (some n) (b :: bs) p2 :: hds) ((c, some i, ts) :: l)
section
variable {X : Cx} {body : List Stmt} {h0 : ExceptHandler} {hds : List ExceptHandler} {l : List Cls3} {pos : Pos} {tb : WX → TS} {Wo : WX}
/-- try, with its clauses one after the other -/
theorem ps_try_seq (est : X.stack = X.env :: X.outer) (efr : X.env.frame = some X.env.locals) (tk : Takes X Wo)
    (hb : ∀ (W : WX) (pn : List (Addr × Obj)) (xe : Value → Shared → Prop),
      Takes (X.tr pn xe) W → PassesOwn (model X.prog X.w) X.A X.env xe → PSs (X.tr pn xe) body (tb W))
    (hh : ClOk X (h0 :: hds) l) : PS X (.Try body (h0 :: hds) [] [] pos) (fun D σ H => tb (wSeq X.K Wo D l) D σ H) := by
  refine ⟨fun pins s σ H D inv hq => ?_⟩
  have okk := inv.ok
  have frames : X.A.frames = some (X.env :: X.outer) := by rw [okk.frames, est]
  refine wpAny_Try_except ?_
  let far : Value → Shared → Prop := fun e s1 => wpAny (model X.prog X.w) X.A (noteFrame e X.env)
    (fun _ s2 => wpAny (model X.prog X.w) X.A (setFlight e none)
      (fun _ s3 => wpAny (model X.prog X.w) X.A (handleBy e X.env (h0 :: hds)) (SP X pins D) X.xe s3) X.xe s2) X.xe s1
  refine wpAny_mono ((hb (wSeq X.K Wo D l) (X.pn ++ pins) far (fun u t0 caught => ?_) PassesOwn.looking).run
    [] s σ H D (inv.toTry _) hq) (fun f t1 fin => ?_) (fun e t1 he => he)
  · obtain ⟨a, B, sI, pins1, σ1, H1, cls, d, rfl, inv1, nb, up, sky, na, os, ag, w⟩ := caught
    have I1 : Inv X pins σ1 H1 sI := inv1.ofTry okk
    have sky1 : Sky B (X.env :: X.outer) a (Zc cls d) X.env.locals t0.heap := by rw [← est]; exact sky
    show wpAny (model X.prog X.w) X.A (noteFrame (.ref a) X.env) _ _ _
    refine Sky.land Zc.steady frames efr sky1 fun h3 fl3 up3 => ?_
    have I3 : Inv X pins σ1 H1 { t0 with heap := h3 } := I1.landed nb fl3.1 (up.trans up3) os ag
    obtain ⟨o3, v3, at3, z3, d3⟩ := fl3.there
    have out : a ∉ frs (X.env :: X.outer) := fun hm => by
      obtain ⟨_, o', e', nf⟩ := fl3.2.2.1.mem hm
      rw [at3] at e'; cases e'
      exact nf _ d3
    have nL : a ≠ X.env.locals := fun z =>
      out (List.mem_filterMap.mpr ⟨X.env, List.mem_cons_self, by rw [efr, z]⟩)
    have nF : a ∉ X.fs := fun hm => by
      obtain ⟨e, he, q⟩ := List.mem_filterMap.mp hm
      exact out (List.mem_filterMap.mpr ⟨e, List.mem_cons_of_mem _ he, q⟩)
    have S3 := I3.suite at3 d3 na nL nF
    have look : PySem.W.Looks (model X.prog X.w) h3 (typeOf (.ref a)) cls := fun A Q E s k q =>
      wpAny_typeOf_ref (k _ _ at3) (by rw [z3.1]; exact q)
    have ask : ∀ {x : Str} {c : Value} {p : Pos} {Q E : Value → Shared → Prop}, Names X x c → Q c { t0 with heap := h3 } →
        wpAny (model X.prog X.w) (X.A.mark (some (.ref a))) (eval (.Name x p) X.env) Q E { t0 with heap := h3 } := fun {x c p Q E} hc q => by
      obtain ⟨hg, hdb, hm | ⟨hm, hv, hnn⟩⟩ := hc
      · exact ld_glob (X := X.suite a ((a, o3) :: (X.pn ++ pins))) S3 hg hm q hdb
      · exact ld_blt (X := X.suite a ((a, o3) :: (X.pn ++ pins))) S3 hg hm hv q hnn hdb
    have all : ∀ {hs : List ExceptHandler} {m : List Cls3}, ClOk X hs m → wSeq X.K Wo D m cls d σ1 H1 →
        wpAny (model X.prog X.w) X.A (handleBy (.ref a) X.env hs) (SP X pins D) X.xe { t0 with heap := h3 } := by
      intro hs m ck
      induction ck with
      | nil =>
        intro w
        refine wpAny_handleBy_nil ?_
        obtain ⟨k1, k2, k3, oe, vs, T, oT, ts', he, hz, hd, q1, q2⟩ := id fl3
        unfold PySem.passOn
        refine wpAny_bind (wpAny_field he hd q1 ?_)
        rw [if_neg (show ¬ ((Value.ref T == Value.none) = true) from by simp)]
        have away : wpAny (model X.prog X.w) X.A (setFlight (.ref a) X.env.frame)
            (fun _ t4 => wpAny (model X.prog X.w) X.A (throw (.ref a) : Sem Flow) (SP X pins D) X.xe t4) X.xe { t0 with heap := h3 } := by
          rw [efr]
          refine HandSPX.setFlight_upZ fl3 fun h4 hh4 up4 => wpAny_throw (tk _ _ ?_)
          exact ⟨a, B, sI, pins, σ1, H1, cls, d, rfl, I1, nb, (up.trans up3).trans up4, .inr (.inr (by rw [est]; exact hh4)), na, os, ag, w⟩
        first
          | exact wpAny_bind (wpAny_pure (wpAny_bind away))
          | exact wpAny_bind away
      | @plain x c ts b bs p1 p2 hs2 m2 hc su r ih =>
        intro w
        obtain ⟨y, hy, yes, no⟩ := w
        refine wpAny_handleBy_cons (codeAny_handlers_test ?_) (by intro q; cases q)
        refine ask hc ((PySem.W.exm_one (M := model X.prog X.w) I3.kIn look hy).here ?_)
        cases y with
        | true =>
          refine codeAny_handlers_suite ?_
          refine HandSPX.lands_againZ fl3 fun h4 fl4 up4 => ?_
          have I4 : Inv X pins σ1 H1 { t0 with heap := h4 } := I1.landed nb fl4.1 ((up.trans up3).trans up4) os ag
          obtain ⟨o4, v4, at4, z4, d4⟩ := fl4.there
          have S4 := I4.suite at4 d4 na nL nF
          refine wpAny_mono ((su a o4 cls d (X.pn ++ pins) z4 ⟨_, d4⟩).run [] _ _ H1 _ S4 (yes rfl a na)) (fun f s6 e6 => ?_) (fun _ _ z => False.elim z)
          cases f with
          | ret u =>
            obtain ⟨v6, σ6, H6, S6, r6, q6⟩ := e6
            exact ⟨_, _, _, S6.unsuite okk, r6, q6⟩
          | _ =>
            obtain ⟨σ6, H6, S6, q6⟩ := e6
            exact ⟨_, _, S6.unsuite okk, q6⟩
        | false =>
          show wpAny _ X.A (handleBy (.ref a) X.env hs2) _ _ _
          exact ih (no rfl)
      | @named x n i c ts b bs p1 p2 hs2 m2 hN hi hl hc su r ih =>
        intro w
        obtain ⟨y, hy, yes, no⟩ := w
        refine wpAny_handleBy_cons (codeAny_handlers_test ?_) (by intro q; cases q)
        refine ask hc ((PySem.W.exm_one (M := model X.prog X.w) I3.kIn look hy).here ?_)
        cases y with
        | true =>
          refine codeAny_handlers_suite_as ?_
          refine HandSPX.lands_againZ fl3 fun h4 fl4 up4 => ?_
          have I4 : Inv X pins σ1 H1 { t0 with heap := h4 } := I1.landed nb fl4.1 ((up.trans up3).trans up4) os ag
          obtain ⟨o4, v4, at4, z4, d4⟩ := fl4.there
          have S4 := I4.suite at4 d4 na nL nF
          refine store_ok (X := X.suite a ((a, o4) :: (X.pn ++ pins))) (v := .ref a) S4 hN hi (.inl hl) rfl (fun s5 S5 => ?_) (.inr hl)
          refine wpAny_mono ((su a o4 cls d (X.pn ++ pins) z4 ⟨_, d4⟩).run [] s5 _ H1 _ S5 (yes rfl a na)) (fun f s6 e6 => ?_) (fun _ _ z => False.elim z)
          have off : ∀ {σ6 : L2.St} {H6 : Hp} {Q : Shared → Prop}, Inv (X.suite a ((a, o4) :: (X.pn ++ pins))) [] σ6 H6 s6 →
              (∀ s7, Inv X pins (σ6.set i none) H6 s7 → Q s7) →
              wpAny (model X.prog X.w) X.A (do bindName X.env n .none; unbindBehindTheSuite X.env n p2) (fun _ s7 => Q s7) X.xe s6 :=
            fun {σ6 H6 Q} S6 hq => gone_ok (S6.unsuite okk) hN hi hl hq
          cases f with
          | ret u =>
            obtain ⟨v6, σ6, H6, S6, r6, q6⟩ := e6
            exact off S6 fun s7 J7 => ⟨_, _, _, J7, r6, q6⟩
          | _ =>
            obtain ⟨σ6, H6, S6, q6⟩ := e6
            exact off S6 fun s7 J7 => ⟨_, _, J7, q6⟩
        | false =>
          show wpAny _ X.A (handleBy (.ref a) X.env hs2) _ _ _
          exact ih (no rfl)
    exact all hh w
  · cases f with
    | next =>
      obtain ⟨σ1, H1, I1, q⟩ := fin
      exact wpAny_execs_nil ⟨σ1, H1, I1.ofTry okk, q⟩
    | ret u =>
      obtain ⟨v, σ1, H1, I1, r, q⟩ := fin
      exact ⟨v, σ1, H1, I1.ofTry okk, r, q⟩
    | _ =>
      obtain ⟨σ1, H1, I1, q⟩ := fin
      exact ⟨σ1, H1, I1.ofTry okk, q⟩
end
end Pv

/-! Pv19: try with several clauses, as functions of data. -/
namespace Pv
open PySem PySem.Spec PyProof.Rows L2
section
variable {X : Cx} {W : WX}
abbrev XF := Str → List (Str × PV) → SF
/-- which clause takes it -/
def xPick : List (List (Str × Bool) × XF) → Str → Option (Option XF)
  | [], _ => some none
  | (t, u) :: r, c => match t.lookup c with
    | none => none
    | some true => some (some u)
    | some false => xPick r c
def noX : RS → RS
  | .ex _ _ _ _ => .bad
  | r => r
def sTryX (t : SF) (l : List (List (Str × Bool) × XF)) : SF := fun Γ S => match t Γ S with
  | .ex c fs Γ1 S1 => match xPick l c with
    | none => .bad
    | some none => .ex c fs Γ1 S1
    | some (some u) => noX (u c fs Γ1 S1)
  | r => r
/-- a suite that does not name the error -/
def xPlain (u : SF) : XF := fun _ _ => u
/-- the name goes -/
def offR (i : Nat) : RS → RS
  | .nx Γ S => .nx (Γ.set i none) S
  | .bk Γ S => .bk (Γ.set i none) S
  | .ct Γ S => .ct (Γ.set i none) S
  | r => r
def xAs (i : Nat) (u : XF) : XF := fun c fs Γ S => if i < Γ.length then offR i (u c fs (Γ.set i none) S) else .bad
/-- a suite whose name i stands for the error a -/
def liftN (X : Cx) (i : Nat) (a : Addr) (cls : Value) (d : Option Addr) (u : XF) : TS := fun D σ H => ∃ g Γ S c fs, Rel X H g S ∧ RG X H g S.length Γ σ ∧ σ[i]? = some (some (.ref a)) ∧ RX X H g S.length c fs cls d ∧ OKs X WN D H g S (u c fs Γ S)
inductive HdX (X : Cx) : List ExceptHandler → List (List (Str × Bool) × XF) → Prop
  | nil : HdX X [] []
  | plain {x : Str} {C : Addr} {tbl : List (Str × Bool)} {t : SF} {b₀ : Stmt} {suite : List Stmt} {np pos' : Pos} {hds : List ExceptHandler} {l : List (List (Str × Bool) × XF)} (hg : Gl X x) (hdb : (x == ("__debug__" : Str)) = false) (hm : X.mg x = some (.ref C))
      (ht : ∀ c b cls, tbl.lookup c = some b → X.mg c = some cls → PySem.W.exmOne X.K cls (.ref C) = some b)
      (hs : ∀ a oe pn, Ss (X.suite a ((a, oe) :: pn)) WN (b₀ :: suite) t) (r : HdX X hds l) :
      HdX X (.ExceptHandler (some (.Name x np)) none (b₀ :: suite) pos' :: hds) ((tbl, xPlain t) :: l)
  | named {x n : Str} {i : Nat} {C : Addr} {tbl : List (Str × Bool)} {u : XF} {b₀ : Stmt} {suite : List Stmt} {np pos' : Pos} {hds : List ExceptHandler} {l : List (List (Str × Bool) × XF)} (hN : X.N.Nodup) (hi : X.N[i]? = some n) (hl : X.env.kindOf n = some .local) (hg : Gl X x) (hdb : (x == ("__debug__" : Str)) = false) (hm : X.mg x = some (.ref C))
      (ht : ∀ c b cls, tbl.lookup c = some b → X.mg c = some cls → PySem.W.exmOne X.K cls (.ref C) = some b)
      (hs : SuOk X (b₀ :: suite) (fun a cls d => liftN X i a cls d u)) (r : HdX X hds l) :
      HdX X (.ExceptHandler (some (.Name x np)) (some n) (b₀ :: suite) pos' :: hds) ((tbl, xAs i u) :: l)
theorem noX_ok {D : Ends} {H : Hp} {g : G} {S : Sto} {r : RS} (h : OKs X W D H g S (noX r)) : OKs X WN D H g S r := by
  revert h
  cases r <;> first | exact fun z => z | exact fun z => False.elim z
theorem HdX.ok {hds : List ExceptHandler} {l : List (List (Str × Bool) × XF)} (h : HdX X hds l) : ∃ l', ClOk X hds l' ∧ ∀ (c : Str) (fs : List (Str × PV)) (Γ : Gam) (S : Sto) (D : Ends) (H : Hp) (g : G) (σ : L2.St) (cls : Value) (d : Option Addr),
    Rel X H g S → RG X H g S.length Γ σ → RX X H g S.length c fs cls d → (match xPick l c with
      | none => False
      | some none => W cls d σ H
      | some (some u) => OKs X WN D H g S (u c fs Γ S)) → wSeq X.K W D l' cls d σ H := by
  induction h with
  | nil => exact ⟨[], .nil, fun c fs Γ S D H g σ cls d rel rg rx k => k⟩
  | plain hg hdb hm ht hs r ih =>
    rename_i x C tbl t b₀ suite np pos' hds l
    obtain ⟨l', h1, h2⟩ := ih
    refine ⟨(.ref C, none, fun a cls d => liftS X WN t) :: l', .plain ⟨hg, hdb, Or.inl hm⟩ (fun a oe cls d pn _ _ => hs a oe pn) h1, fun c fs Γ S D H g σ cls d rel rg rx k => ?_⟩
    unfold xPick at k
    cases e : tbl.lookup c with
    | none => rw [e] at k; exact k.elim
    | some b =>
      rw [e] at k
      refine ⟨b, ht c b cls e rx.1, fun hb a ha => ?_, fun hb => ?_⟩
      · subst hb; exact ⟨g, Γ, S, rel, rg, k⟩
      · subst hb; exact h2 c fs Γ S D H g σ cls d rel rg rx k
  | named hN hi hl hg hdb hm ht hs r ih =>
    rename_i x n i C tbl u b₀ suite np pos' hds l
    obtain ⟨l', h1, h2⟩ := ih
    refine ⟨(.ref C, some i, fun a cls d => liftN X i a cls d u) :: l', .named hN hi hl ⟨hg, hdb, Or.inl hm⟩ hs h1, fun c fs Γ S D H g σ cls d rel rg rx k => ?_⟩
    unfold xPick at k
    cases e : tbl.lookup c with
    | none => rw [e] at k; exact k.elim
    | some b =>
      rw [e] at k
      refine ⟨b, ht c b cls e rx.1, fun hb a ha => ?_, fun hb => ?_⟩
      · subst hb
        have hlt : i < X.N.length := (List.getElem?_eq_some_iff.mp hi).1
        have rg0 : RG X H g S.length (Γ.set i none) (σ.set i (some (.ref a))) := by
          refine ⟨by rw [List.length_set, List.length_set]; exact rg.len, fun j p q => ?_⟩
          by_cases z : i = j
          · subst z
            rw [List.getElem?_set] at q
            rw [if_pos rfl] at q
            split at q <;> cases q
          · rw [List.getElem?_set_ne z] at q ⊢
            exact rg.at_ j p q
        have k : OKs X WN D H g S (if i < Γ.length then offR i (u c fs (Γ.set i none) S) else .bad) := k
        by_cases hil : i < Γ.length
        · rw [if_pos hil] at k
          refine ⟨g, Γ.set i none, S, c, fs, rel, rg0, List.getElem?_set_self (rg.len ▸ hil), rx, ?_⟩
          revert k
          cases u c fs (Γ.set i none) S with
          | nx Γ1 S1 => exact fun k g' H' σ' e' r' => k g' H' _ e' r'.unset
          | bk Γ1 S1 => exact fun k g' H' σ' e' r' => k g' H' _ e' r'.unset
          | ct Γ1 S1 => exact fun k g' H' σ' e' r' => k g' H' _ e' r'.unset
          | rt v S1 => exact fun k => k
          | ex c fs Γ1 S1 => exact fun k => k
          | bad => exact fun k => k
        · rw [if_neg hil] at k
          exact k.elim
      · subst hb; exact h2 c fs Γ S D H g σ cls d rel rg rx k
theorem Body.tryX {N : List Str} {sc : Scope} {k : Nat} {body : List Stmt} {h₀ : ExceptHandler} {hds : List ExceptHandler} {t : SF} {l : List (List (Str × Bool) × XF)} {pos : Pos} (b : Body X W N sc k)
    (hb : ∀ (W' : WX) (pn : List (Addr × Obj)) (xe : Value → Shared → Prop), Body (X.tr pn xe) W' N sc k → Ss (X.tr pn xe) W' body t) (hh : HdX X (h₀ :: hds) l) : St X W (.Try body (h₀ :: hds) [] [] pos) (sTryX t l) := by
  obtain ⟨l', h1, h2⟩ := hh.ok (W := W)
  refine ps_imp (ps_try_seq (tb := fun W' => liftS X W' t) b.hs b.hf b.tk (fun W' pn xe tk po => hb W' pn xe (b.tr tk po)) h1) fun D σ H ⟨g, Γ, S, rel, rg, ok⟩ => ⟨g, Γ, S, rel, rg, ?_⟩
  unfold sTryX at ok
  cases e : t Γ S with
  | nx Γ1 S1 => rw [e] at ok; exact ok
  | bk Γ1 S1 => rw [e] at ok; exact ok
  | ct Γ1 S1 => rw [e] at ok; exact ok
  | rt v S1 => rw [e] at ok; exact ok
  | bad => rw [e] at ok; exact ok
  | ex c fs Γ1 S1 =>
    rw [e] at ok
    dsimp only at ok
    intro g' H' σ' cls d ee rg' rx
    refine h2 c fs Γ1 S1 D H' g' σ' cls d ee.rel rg' rx ?_
    revert ok
    cases xPick l c with
    | none => exact fun z => z
    | some o => cases o with
      | none => exact fun z => z g' H' σ' cls d ee rg' rx
      | some u =>
        dsimp only
        intro ok
        exact noX_ok (OKs.cont ee ok)
/-! ### values in a suite that names the error -/
abbrev VF := Str → List (Str × PV) → Option PV
abbrev VsF := Str → List (Str × PV) → Option (List PV)
def liftV (X : Cx) (i : Nat) (a : Addr) (cls : Value) (d : Option Addr) (f : VF) : TE := fun σ H Q => ∃ g Γ S c fs p, Rel X H g S ∧ RG X H g S.length Γ σ ∧ σ[i]? = some (some (.ref a)) ∧ RX X H g S.length c fs cls d ∧ f c fs = some p ∧ ∀ g' H' x, Ext X H g S H' g' S → RV X H' g' S.length p x → Q x H'
def liftVs (X : Cx) (i : Nat) (a : Addr) (cls : Value) (d : Option Addr) (f : VsF) : TA := fun σ H Q => ∃ g Γ S c fs ps, Rel X H g S ∧ RG X H g S.length Γ σ ∧ σ[i]? = some (some (.ref a)) ∧ RX X H g S.length c fs cls d ∧ f c fs = some ps ∧ ∀ g' H' xs, Ext X H g S H' g' S → RVs X H' g' S.length ps xs → Q xs H'
/-- what holds of an error that is being handled -/
def VE (X : Cx) (i : Nat) (e : Expr) (f : VF) : Prop := ∀ (a : Addr) (oe : Obj) (cls : Value) (d : Option Addr) (pn : List (Addr × Obj)), Zc cls d oe → (∃ vs, oe.data = .fields vs) → PE (X.suite a ((a, oe) :: pn)) e (liftV X i a cls d f)
def VA (X : Cx) (i : Nat) (es : List Expr) (f : VsF) : Prop := ∀ (a : Addr) (oe : Obj) (cls : Value) (d : Option Addr) (pn : List (Addr × Obj)), Zc cls d oe → (∃ vs, oe.data = .fields vs) → PA (X.suite a ((a, oe) :: pn)) es (liftVs X i a cls d f)
variable {i : Nat}
theorem RX.up {Y : Kx} {H H' : Hp} {g g' : G} {S S' : Sto} {c : Str} {fs : List (Str × PV)} {cls : Value} {d : Option Addr} (rel : Rel Y H g S) (e : Ext Y H g S H' g' S') (h : RX Y H g S.length c fs cls d) : RX Y H' g' S'.length c fs cls d := h.mono (e.up rel)
def vC (p : PV) : VF := fun _ _ => some p
def vFld (x f : Str) : VF := fun c fs => if c = x then fs.lookup f else none
theorem VE.const {e : Expr} {v : V} {p : PV} (h : ∀ (X' : Cx), PE X' e (tC v)) (hp : ∀ H g L, RV X H g L p v) : VE X i e (vC p) := fun a oe cls d pn hz hf =>
  pe_imp (h _) fun σ H Q ⟨g, Γ, S, c, fs, q, rel, rg, hi, rx, e, k⟩ => by
    cases e
    exact k g H v (Ext.refl rel) (hp H g S.length)
theorem VE.str {z : Str} {j : Nat} {pos : Pos} : VE X i (.Constant (.str z) j pos) (vC (.str z)) := VE.const (fun _ => pe_str) fun _ _ _ => RV.str
theorem VE.int {z : Int} {j : Nat} {pos : Pos} : VE X i (.Constant (.int z) j pos) (vC (.int z)) := VE.const (fun _ => pe_int) fun _ _ _ => RV.int
/-- e.f, the error of the class x -/
theorem VE.fld {x f : Str} {C : Addr} {e : Expr} {pos : Pos} (T : XfC X.K C) (hm : X.mg x = some (.ref C)) (hno : PySem.W.findIn X.K (.ref C) f = some none) (he : ∀ (a : Addr) (pn : List (Addr × Obj)), PE (X.suite a pn) e (tVar i)) (hb : attributeBase e f X.env (eval e X.env) = eval e X.env := by rfl) :
    VE X i (.Attribute e f pos) (vFld x f) := fun a oe cls d pn hz hf =>
  pe_imp (pe_xf T hno hz hf (he a _) hb) fun σ H Q ⟨g, Γ, S, c, fs, q, rel, rg, hi, rx, e, k⟩ => by
    unfold vFld at e
    split at e
    · rename_i hc
      subst hc
      obtain ⟨r1, r2⟩ := rx
      have r3 : some (Value.ref C) = some cls := hm.symm.trans r1
      cases r3
      rcases r2 with ⟨rfl, _⟩ | ⟨dx, vs, rfl, hx, rv⟩
      · cases e
      · have find : ∀ (fs : List (Str × PV)) (vs : List V), RVs X H g S.length (fs.map (·.2)) vs → fs.lookup f = some q → ∃ v, ((fs.map (·.1)).zip vs).lookup f = some v ∧ RV X H g S.length q v := by
          intro fs
          induction fs with
          | nil => intro vs _ h; cases h
          | cons p fs ih =>
            intro vs rv h
            obtain ⟨n, w⟩ := p
            simp only [List.map_cons, RVs] at rv
            obtain ⟨v, r, rfl, h1, h2⟩ := rv
            rw [List.lookup_cons] at h
            rw [List.map_cons, List.zip_cons_cons, List.lookup_cons]
            by_cases z : (f == n) = true
            · rw [z] at h ⊢
              cases h
              exact ⟨v, rfl, h1⟩
            · have z : (f == n) = false := by simpa using z
              rw [z] at h ⊢
              exact ih r h2 h
        obtain ⟨v, l1, l2⟩ := find fs vs rv e
        exact ⟨_, hi, rfl, rfl, dx, _, v, rfl, hx, l1, k g H v (Ext.refl rel) l2⟩
    · cases e
def vsNil : VsF := fun _ _ => some []
def vsCons (f : VF) (r : VsF) : VsF := fun c fs => match f c fs, r c fs with
  | some p, some ps => some (p :: ps)
  | _, _ => none
theorem VA.nil : VA X i [] vsNil := fun a oe cls d pn hz hf => pa_imp pa_nil fun σ H Q ⟨g, Γ, S, c, fs, q, rel, rg, hi, rx, e, k⟩ => by
  cases e
  exact k g H [] (Ext.refl rel) RVs.nil
theorem VA.cons {e : Expr} {es : List Expr} {f : VF} {r : VsF} (he : VE X i e f) (hr : VA X i es r) (hs : starEach (e :: es) X.env = (false, eval e X.env) :: starEach es X.env := by rfl) : VA X i (e :: es) (vsCons f r) := fun a oe cls d pn hz hf =>
  pa_imp (pa_cons (he a oe cls d pn hz hf) (hr a oe cls d pn hz hf) hs) fun σ H Q ⟨g, Γ, S, c, fs, q, rel, rg, hi, rx, e, k⟩ => by
    unfold vsCons at e
    split at e
    · rename_i p ps e1 e2
      cases e
      refine ⟨g, Γ, S, c, fs, p, rel, rg, hi, rx, e1, fun g1 H1 x x1 r1 => ?_⟩
      refine ⟨g1, Γ, S, c, fs, ps, x1.rel, rg.up rel x1, hi, RX.up rel x1 rx, e2, fun g2 H2 xs x2 r2 => ?_⟩
      exact k g2 H2 _ (x1.trans x2) (RVs.cons (RV.up x1.rel x2 _ _ r1) r2)
    · cases e
def vDisp (k : Kd) (f : VsF) : VF := fun c fs => match f c fs with
  | some ps => if ps.length ≤ sizeLine then some (.con .own k ps) else none
  | none => none
theorem VE.lst {es : List Expr} {f : VsF} {pos : Pos} (h : VA X i es f) : VE X i (.List es pos) (vDisp .lst f) := fun a oe cls d pn hz hf =>
  pe_imp (pe_lst (h a oe cls d pn hz hf)) fun σ H Q ⟨g, Γ, S, c, fs, q, rel, rg, hi, rx, e, k⟩ => by
    unfold vDisp at e
    split at e
    · rename_i ps e1
      split at e
      · rename_i hl
        cases e
        refine ⟨g, Γ, S, c, fs, ps, rel, rg, hi, rx, e1, fun g1 H1 xs x1 r1 => ⟨by rw [← r1.len]; exact hl, fun p hp => ?_⟩⟩
        obtain ⟨z1, z2⟩ := newF_ok x1.rel hp (k := .lst) (o := .lst _) rfl r1
        exact k _ _ _ (x1.trans z1) z2
      · cases e
    · cases e
theorem VE.tup {es : List Expr} {f : VsF} {x1 : Nat} {pos : Pos} (h : VA X i es f) : VE X i (.Tuple es x1 pos) (vDisp .tup f) := fun a oe cls d pn hz hf =>
  pe_imp (pe_tup (h a oe cls d pn hz hf)) fun σ H Q ⟨g, Γ, S, c, fs, q, rel, rg, hi, rx, e, k⟩ => by
    unfold vDisp at e
    split at e
    · rename_i ps e1
      split at e
      · rename_i hl
        cases e
        refine ⟨g, Γ, S, c, fs, ps, rel, rg, hi, rx, e1, fun g1 H1 xs x1 r1 => ⟨by rw [← r1.len]; exact hl, fun p hp => ?_⟩⟩
        obtain ⟨z1, z2⟩ := newF_ok x1.rel hp (k := .tup) (o := .tup _) rfl r1
        exact k _ _ _ (x1.trans z1) z2
      · cases e
    · cases e
/-- name = e, in a suite that names the error -/
def xSet (j : Nat) (f : VF) : XF := fun c fs Γ S => match f c fs with
  | some p => .nx (Γ.set j (some p)) S
  | none => .bad
theorem Body.suSetX {N : List Str} {sc : Scope} {k : Nat} (b : Body X W N sc k) (nd : N.Nodup) (j : Nat) (y : Str) {e : Expr} {f : VF} {pos pos' : Pos} (h : slT N sc j y = true) (he : VE X i e f)
    (hs : swapsWith e (some (.Name y pos')) pos.line X.env = pure false := by rfl) : SuOk X [.Assign [.Name y pos'] e pos] (fun a cls d => liftN X i a cls d (xSet j f)) := by
  have b1 := b.hN
  have b2 := b.sc
  subst b1 b2
  obtain ⟨h1, h2⟩ := slT_ok h
  intro a oe cls d pn hz hf
  refine pss_one (ps_imp (ps_set (X := X.suite a ((a, oe) :: pn)) nd h1 h2 (he a oe cls d pn hz hf) hs (.inl (b.fn y))) fun D σ H ⟨g, Γ, S, c, fs, rel, rg, hi, rx, ok⟩ => ?_)
  unfold xSet at ok
  cases e : f c fs with
  | none => rw [e] at ok; exact ok.elim
  | some p =>
    rw [e] at ok
    exact ⟨g, Γ, S, c, fs, p, rel, rg, hi, rx, e, fun g1 H1 x x1 r1 => ok g1 H1 _ x1 ((rg.up rel x1).set r1)⟩
end
end Pv

/-! Pv20: isinstance of an error that is being handled. -/
namespace Pv
open PySem PySem.Spec PyProof.Rows L2
section
variable {X : Cx} {W : WX} {i : Nat}
/-- what an error's class D must say so that isinstance may ask its errors -/
structure XisC (K : PySem.W.Frag) (D : Addr) : Prop where
  c : (PySem.W.clsIn K D).isSome = true
  ga : PySem.W.findIn K (.ref D) "__getattribute__" = some (some (.builtin "BaseException.__getattribute__"))
  gt : PySem.W.findIn K (.ref D) "__getattr__" = some none
  s : PySem.W.subIn K (.ref D) (.type "BaseException") = some true
  a : PySem.W.findIn K (.ref D) "__class__" = some (some (.builtin "object.__class__"))
  n : PySem.W.specialIn K (.builtin "object.__class__") "__get__" = some (some (.builtin "getset_descriptor.__get__"))
  t : PySem.W.takesIn K (.builtin "object.__class__") = some true
  m : PySem.W.mroIn K D (.type "object") = some true
def xisB (K : PySem.W.Frag) (D : Addr) : Bool :=
  (PySem.W.clsIn K D).isSome && (decide (PySem.W.findIn K (.ref D) "__getattribute__" = some (some (.builtin "BaseException.__getattribute__"))) &&
  (decide (PySem.W.findIn K (.ref D) "__getattr__" = some none) && (decide (PySem.W.subIn K (.ref D) (.type "BaseException") = some true) &&
  (decide (PySem.W.findIn K (.ref D) "__class__" = some (some (.builtin "object.__class__"))) && (decide (PySem.W.specialIn K (.builtin "object.__class__") "__get__" = some (some (.builtin "getset_descriptor.__get__"))) &&
  (decide (PySem.W.takesIn K (.builtin "object.__class__") = some true) && decide (PySem.W.mroIn K D (.type "object") = some true)))))))
theorem xisB_ok {K : PySem.W.Frag} {D : Addr} (h : xisB K D = true) : XisC K D := by
  obtain ⟨c1, h⟩ := He.ba h
  obtain ⟨c2, h⟩ := He.ba h
  obtain ⟨c3, h⟩ := He.ba h
  obtain ⟨c4, h⟩ := He.ba h
  obtain ⟨c5, h⟩ := He.ba h
  obtain ⟨c6, h⟩ := He.ba h
  obtain ⟨c7, c8⟩ := He.ba h
  exact ⟨c1, of_decide_eq_true c2, of_decide_eq_true c3, of_decide_eq_true c4, of_decide_eq_true c5, of_decide_eq_true c6, of_decide_eq_true c7, of_decide_eq_true c8⟩
def rIsX (K : PySem.W.Frag) (D a : Addr) (d : Option Addr) : List V → Hp → VK → Prop := fun xs H Q => ∃ (c : V) (cv : Value) (b : Bool), xs = [.ref a, c] ∧ (∀ u, RelV c u → u = cv) ∧ (d = none ∨ ∃ dd fs, d = some dd ∧ H dd = some (.xd fs)) ∧ PySem.W.kitOne K (.ref D) cv = some b ∧ Q (.bl b) H
theorem call_isX {a D : Addr} {d : Option Addr} {oe : Obj} {pn : List (Addr × Obj)} (C : XisC X.K D) (hz : Zc (.ref D) d oe) (hf : ∃ vs, oe.data = .fields vs) : CallR (X.suite a ((a, oe) :: pn)) (.builtin "isinstance") (rIsX X.K D a d) := by
  intro pins s σ H xs us Q I r h
  obtain ⟨c, cv, b, rfl, hcv, hd, e, q⟩ := h
  cases r with
  | cons rx rr =>
    cases rr with
    | cons rt rr =>
      cases rr
      cases rx
      have ec := hcv _ rt
      subst ec
      obtain ⟨hget, _⟩ := I.pin (a, oe) (List.mem_append.mpr (.inl List.mem_cons_self))
      obtain ⟨vs, hv⟩ := hf
      have J : ∃ od, PySem.W.InstAt s.heap a oe D od := by
        rcases hd with rfl | ⟨dd, fs, rfl, hx⟩
        · obtain ⟨oc, od, oda, osl⟩ := oe
          obtain ⟨h1, h2⟩ := hz
          dsimp only at h1 h2 hv
          subst h1 h2 hv
          exact ⟨none, hget, rfl, rfl, trivial⟩
        · have ho : ObjOk X.prog X.w H s.heap dd (.xd fs) := I.hok dd _ hx
          obtain ⟨mA, hns, _⟩ := ho
          obtain ⟨od, ho2, _⟩ := lookIn_ns hns
          exact ⟨some od, hget, hz.1, by unfold PySem.W.notCls; rw [hv] <;> rfl, by rw [hz.2]; exact ho2⟩
      obtain ⟨od, J⟩ := J
      exact PySem.W.kia_one (PySem.W.kitx_exc C.c C.ga C.gt C.s C.a C.n C.t C.m) I.kIn J e (fun z => nomatch z) fun tk => ⟨.bl b, H, I.kept (t' := tk) fun _ _ z => z, rfl, q⟩
/-- isinstance(e, y): what it says of errors of the named classes -/
def XisT (K : PySem.W.Frag) (mg : Str → Option Value) (y : Str) (tbl : List (Str × Bool)) : Prop := mg y = some (.ref (He.ga K y)) ∧
  ∀ c b cls, tbl.lookup c = some b → mg c = some cls → ∃ D, cls = .ref D ∧ XisC K D ∧ PySem.W.kitOne K (.ref D) (.ref (He.ga K y)) = some b
def xistB (K : PySem.W.Frag) (y : Str) (tbl : List (Str × Bool)) : Bool := He.Fa.ok K (.glo y) && tbl.all fun p => He.Fa.ok K (.glo p.1) && (xisB K (He.ga K p.1) && decide (PySem.W.kitOne K (.ref (He.ga K p.1)) (.ref (He.ga K y)) = some p.2))
theorem mem_lookup {c : Str} {b : Bool} : ∀ {tbl : List (Str × Bool)}, tbl.lookup c = some b → (c, b) ∈ tbl
  | [], e => by cases e
  | (q1, q2) :: r, e => by
    rw [List.lookup_cons] at e
    split at e
    · rename_i z
      cases e
      rw [eq_of_beq z]
      exact List.mem_cons_self
    · exact List.mem_cons_of_mem _ (mem_lookup e)
theorem xistB_ok {K : PySem.W.Frag} {h : Heap} {mg : Str → Option Value} {y : Str} {tbl : List (Str × Bool)} (Y : K.In h) (G : h.Ns mainGlobals mg) (c : xistB K y tbl = true) : XisT K mg y tbl := by
  obtain ⟨c1, c2⟩ := He.ba c
  refine ⟨He.glo_ok Y G c1, fun x b cls e m => ?_⟩
  obtain ⟨z1, z2⟩ := He.ba (List.all_eq_true.mp c2 _ (mem_lookup e))
  obtain ⟨z2, z3⟩ := He.ba z2
  have := He.glo_ok Y G z1
  rw [this] at m
  cases m
  exact ⟨_, rfl, xisB_ok z2, of_decide_eq_true z3⟩
def vIs (tbl : List (Str × Bool)) : VF := fun c _ => (tbl.lookup c).map PV.bl
theorem RX.dict {Y : Kx} {H : Hp} {g : G} {L : Nat} {c : Str} {fs : List (Str × PV)} {cls : Value} {d : Option Addr} (h : RX Y H g L c fs cls d) : d = none ∨ ∃ dd fs, d = some dd ∧ H dd = some (.xd fs) := by
  rcases h.2 with ⟨_, h⟩ | ⟨dx, vs, h1, h2, _⟩
  · exact Or.inl h
  · exact Or.inr ⟨dx, _, h1, h2⟩
theorem VE.isX {y : Str} {tbl : List (Str × Bool)} {e : Expr} {p p2 pos : Pos} (T : XisT X.K X.mg y tbl) (hg : Gl X "isinstance") (hm : X.mg "isinstance" = none) (hgy : Gl X y) (he : ∀ (a : Addr) (pn : List (Addr × Obj)), PE (X.suite a pn) e (tVar i)) (hdy : (y == ("__debug__" : Str)) = false := by decide)
    (h1 : starEach (e :: [.Name y p2]) X.env = (false, eval e X.env) :: starEach [.Name y p2] X.env := by rfl) (h2 : starEach [.Name y p2] X.env = (false, eval (.Name y p2) X.env) :: starEach [] X.env := by rfl)
    (hpl : (backTo pos (starEach [.Name y p2] X.env)).any (·.1) = false := by rfl) :
    VE X i (.Call (.Name "isinstance" p) [e, .Name y p2] [] pos) (vIs tbl) := by
  intro a oe cls d pn hz hf
  have hC : ∀ (σ : L2.St) (H : Hp) (Q : VK), liftV X i a cls d (vIs tbl) σ H Q → ∃ D, cls = .ref D ∧ XisC X.K D := fun σ H Q ⟨g, Γ, S, c, fs, q, rel, rg, hi, rx, ee, k⟩ => by
    simp only [vIs, Option.map_eq_some_iff] at ee
    obtain ⟨b, e1, rfl⟩ := ee
    obtain ⟨D, z1, z2, _⟩ := T.2 c b cls e1 rx.1
    exact ⟨D, z1, z2⟩
  refine ⟨fun pins s σ H Q I h => ?_⟩
  obtain ⟨D, rfl, C⟩ := hC σ H Q h
  have base := pe_callB (X := X.suite a ((a, oe) :: pn)) (p := p) (pos := pos) (x := "isinstance") (call_isX C hz hf) hg hm (by decide +kernel) (pa_cons (he a _) (pa_cons (pe_glob (v := .ref (He.ga X.K y)) hgy T.1 rfl hdy) pa_nil h2) h1) (by decide) (by decide) h1 hpl
  refine base.run pins s σ H Q I ?_
  obtain ⟨g, Γ, S, c, fs, q, rel, rg, hi, rx, ee, k⟩ := h
  simp only [vIs, Option.map_eq_some_iff] at ee
  obtain ⟨b, e1, rfl⟩ := ee
  obtain ⟨D', z1, z2, z3⟩ := T.2 c b _ e1 rx.1
  cases z1
  exact ⟨_, hi, .ref (He.ga X.K y), .ref (He.ga X.K y), b, rfl, fun u r => r, rx.dict, z3, k g H _ (Ext.refl rel) RV.bl⟩
end
end Pv
namespace Pv
open PySem PySem.Spec PyProof.Rows L2
section
variable {X : Cx} {W : WX} {N : List Str} {sc : Scope} {k : Nat}
/-- a field f of an own error class x, that may be read -/
structure XfX (K : PySem.W.Frag) (mg : Str → Option Value) (x f : Str) : Prop where
  g : mg x = some (.ref (He.ga K x))
  t : XfC K (He.ga K x)
  no : PySem.W.findIn K (.ref (He.ga K x)) f = some none
def xfxB (K : PySem.W.Frag) (x f : Str) : Bool := He.Fa.ok K (.glo x) && (xfB K (He.ga K x) && He.Fa.ok K (.noat x f))
theorem xfxB_ok {K : PySem.W.Frag} {h : Heap} {mg : Str → Option Value} {x f : Str} (Y : K.In h) (G : h.Ns mainGlobals mg) (c : xfxB K x f = true) : XfX K mg x f := by
  obtain ⟨c1, c⟩ := He.ba c
  obtain ⟨c2, c3⟩ := He.ba c
  exact ⟨He.glo_ok Y G c1, xfB_ok c2, He.noat_ok c3⟩
theorem Body.suVar (b : Body X W N sc k) (i : Nat) (x : Str) {pos : Pos} (h : slC N sc i x = true) : ∀ (a : Addr) (pn : List (Addr × Obj)), PE (X.suite a pn) (.Name x pos) (tVar i) := by
  have b1 := b.hN
  have b2 := b.sc
  subst b1 b2
  obtain ⟨h1, h2, h3, h4⟩ := slC_ok h
  exact fun a pn => pe_var (X := X.suite a pn) h1 h2 h3 h4
theorem Body.fld (b : Body X W N sc k) {i : Nat} {x f n : Str} {p1 p2 : Pos} (T : XfX X.K X.mg x f) (h : slC N sc i n = true) : VE X i (.Attribute (.Name n p1) f p2) (vFld x f) := VE.fld T.t T.g T.no (b.suVar i n h)
theorem Body.isX (b : Body X W N sc k) {i : Nat} {y n : Str} {tbl : List (Str × Bool)} {p1 p2 p3 pos : Pos} (T : XisT X.K X.mg y tbl) (hg : Gl X "isinstance") (hm : X.mg "isinstance" = none) (hgy : Gl X y) (h : slC N sc i n = true) (hdy : (y == ("__debug__" : Str)) = false := by decide) :
    VE X i (.Call (.Name "isinstance" p1) [.Name n p2, .Name y p3] [] pos) (vIs tbl) := VE.isX T hg hm hgy (b.suVar i n h) hdy
theorem Body.named (b : Body X W N sc k) (nd : N.Nodup) (i : Nat) (n : Str) (h : (decide (N[i]? = some n) && decide (sc.names.lookup n = some .local)) = true) {x : Str} {C : Addr} {tbl : List (Str × Bool)} {u : XF} {b₀ : Stmt} {suite : List Stmt} {np pos' : Pos} {hds : List ExceptHandler} {l : List (List (Str × Bool) × XF)}
    (hg : Gl X x) (hdb : (x == ("__debug__" : Str)) = false) (hm : X.mg x = some (.ref C)) (ht : ∀ c b cls, tbl.lookup c = some b → X.mg c = some cls → PySem.W.exmOne X.K cls (.ref C) = some b)
    (hs : SuOk X (b₀ :: suite) (fun a cls d => liftN X i a cls d u)) (r : HdX X hds l) : HdX X (.ExceptHandler (some (.Name x np)) (some n) (b₀ :: suite) pos' :: hds) ((tbl, xAs i u) :: l) := by
  have b1 := b.hN
  have b2 := b.sc
  subst b1 b2
  simp only [Bool.and_eq_true, decide_eq_true_eq] at h
  exact .named nd h.1 h.2 hg hdb hm ht hs r
end
end Pv

namespace Pv
open PySem PySem.Spec PyProof.Rows L2
/-! What is raised goes on; places that are written. -/
section
variable {Γ : Gam} {S : Sto} {c : Str} {fs : List (Str × PV)} {f f' : OF} {a b tc : EF} {p q : PV} {k : Bool} {tr : AF} {s r : BF}
@[simp] theorem opK_ex : opK f b Γ (.ex c fs S) = .ex c fs S := (rfl)
@[simp] theorem opK2_ex : opK2 f p (.ex c fs S) = .ex c fs S := (rfl)
@[simp] theorem chK_ex : chK f f' b tc Γ (.ex c fs S) = .ex c fs S := (rfl)
@[simp] theorem chK2_ex : chK2 f f' p tc Γ (.ex c fs S) = .ex c fs S := (rfl)
@[simp] theorem uK_ex {g : PV → PV} : uK g (.ex c fs S) = .ex c fs S := (rfl)
@[simp] theorem negK_ex : negK (.ex c fs S) = .ex c fs S := (rfl)
@[simp] theorem beK_ex : beK (.ex c fs S) = .ex c fs S := (rfl)
@[simp] theorem btK_ex : btK (.ex c fs S) = .ex c fs S := (rfl)
@[simp] theorem andK_ex : andK r Γ (.ex c fs S) = .ex c fs S := (rfl)
@[simp] theorem orK_ex : orK r Γ (.ex c fs S) = .ex c fs S := (rfl)
@[simp] theorem notK_ex : notK (.ex c fs S) = .ex c fs S := (rfl)
@[simp] theorem eandK_ex : eandK b Γ (.ex c fs S) = .ex c fs S := (rfl)
@[simp] theorem eorK_ex : eorK b Γ (.ex c fs S) = .ex c fs S := (rfl)
@[simp] theorem enotK_ex : enotK (.ex c fs S) = .ex c fs S := (rfl)
@[simp] theorem eifK_ex : eifK a b Γ (.ex c fs S) = .ex c fs S := (rfl)
@[simp] theorem consK_ex : consK tr Γ (.ex c fs S) = .ex c fs S := (rfl)
@[simp] theorem consK2_ex : consK2 p (.ex c fs S) = .ex c fs S := (rfl)
@[simp] theorem tupK_ex : tupK (.ex c fs S) = .ex c fs S := (rfl)
@[simp] theorem lstK_ex : lstK k (.ex c fs S) = .ex c fs S := (rfl)
@[simp] theorem calK_ex {g : CF} : calK g (.ex c fs S) = .ex c fs S := (rfl)
@[simp] theorem calPK_ex {g : List PV → RP} : calPK g (.ex c fs S) = .ex c fs S := (rfl)
@[simp] theorem calWK_ex {g : List PV → Sto → R PV} : calWK g (.ex c fs S) = .ex c fs S := (rfl)
@[simp] theorem emK_ex {T : String} {g : MF} : emK T g tr Γ (.ex c fs S) = .ex c fs S := (rfl)
@[simp] theorem emK2_ex {g : MF} : emK2 g p (.ex c fs S) = .ex c fs S := (rfl)
@[simp] theorem augK_ex {i : Nat} : augK i f p Γ (.ex c fs S) = .ex c fs Γ S := (rfl)
@[simp] theorem rsK_ex {x y : Str} : rsK x y Γ (.ex c fs S) = .ex c fs Γ S := (rfl)
/-! places -/
section
variable {α : Type} {x0 x1 x2 x3 x4 : α} {xs : List α}
@[simp] theorem atI_0 : L2.atI (x0 :: xs) 0 = some x0 := by
  unfold L2.atI ixN; simp
@[simp] theorem atI_1 : L2.atI (x0 :: x1 :: xs) 1 = some x1 := by
  unfold L2.atI ixN
  rw [if_pos (by decide), if_pos (by simp <;> omega)]; rfl
@[simp] theorem atI_2 : L2.atI (x0 :: x1 :: x2 :: xs) 2 = some x2 := by
  unfold L2.atI ixN
  rw [if_pos (by decide), if_pos (by simp <;> omega)]; rfl
@[simp] theorem atI_3 : L2.atI (x0 :: x1 :: x2 :: x3 :: xs) 3 = some x3 := by
  unfold L2.atI ixN
  rw [if_pos (by decide), if_pos (by simp <;> omega)]; rfl
@[simp] theorem atI_4 : L2.atI (x0 :: x1 :: x2 :: x3 :: x4 :: xs) 4 = some x4 := by
  unfold L2.atI ixN
  rw [if_pos (by decide), if_pos (by simp <;> omega)]; rfl
end
/-! try -/
def tryXK (l : List (List (Str × Bool) × XF)) : RS → RS
  | .ex c fs Γ1 S1 => match xPick l c with
    | none => .bad
    | some none => .ex c fs Γ1 S1
    | some (some u) => noX (u c fs Γ1 S1)
  | r => r
variable {t : SF} {l : List (List (Str × Bool) × XF)} {u : XF}
@[simp] theorem sTryX_eq : sTryX t l Γ S = tryXK l (t Γ S) := by unfold sTryX tryXK; cases t Γ S <;> rfl
@[simp] theorem tryXK_nx : tryXK l (.nx Γ S) = .nx Γ S := (rfl)
@[simp] theorem tryXK_rt : tryXK l (.rt p S) = .rt p S := (rfl)
theorem tryXK_ex (h : xPick l c = some (some u)) : tryXK l (.ex c fs Γ S) = noX (u c fs Γ S) := by unfold tryXK; simp only [h]
theorem xAs_eq {i : Nat} (h : i < Γ.length) : xAs i u c fs Γ S = offR i (u c fs (Γ.set i none) S) := if_pos h
theorem xSet_eq {j : Nat} {f : VF} (h : f c fs = some p) : xSet j f c fs Γ S = .nx (Γ.set j (some p)) S := by unfold xSet; rw [h]
@[simp] theorem noX_nx : noX (.nx Γ S) = .nx Γ S := (rfl)
@[simp] theorem noX_rt : noX (.rt p S) = .rt p S := (rfl)
@[simp] theorem offR_nx {i : Nat} : offR i (.nx Γ S) = .nx (Γ.set i none) S := (rfl)
end
end Pv

namespace Law
open PySem PySem.Spec PyProof.Rows L2 Pv
def c_LINES : Int := 1000000
def c_GROUP : Int := 128
def c_MOST_LINES : Int := 10000
def l0_packed : SF := sSeq (sAsg (eCall divmodF (aCons (eV 0) (aCons (eC (.int c_GROUP)) aNil))) (gU [0, 2])) (sExpr (eM "list" appendF (eV 1) (aCons (eOp (addF false) (eV 2) (eC (.int c_GROUP))) aNil)))
def r1_packed : SF := sSeq (sExpr (eM "list" appendF (eV 1) (aCons (eV 0) aNil))) (sRet (eV 1))
def body_packed : SF := sSeq (sSet 1 (eLst true aNil)) (sSeq (sWhl (bE (eOp geF (eV 0) (eC (.int c_GROUP)))) (l0_packed)) (r1_packed))
def f_packed : List PV → RP := runP 1 3 body_packed

def r0_folded : SF := sRet (eOp subF (eOp (mulF false) (eNeg (eC (.int 2))) (eV 0)) (eC (.int 1)))
def body_folded : SF := sSeq (sIf (bE (eOp geF (eV 0) (eC (.int 0)))) (sRet (eOp (mulF false) (eC (.int 2)) (eV 0))) (sNext)) (r0_folded)
def f_folded : List PV → RP := runP 1 1 body_folded

def r0_unfolded : SF := sRet (eV 1)
def body_unfolded : SF := sSeq (sAsg (eCall divmodF (aCons (eV 0) (aCons (eC (.int 2)) aNil))) (gU [1, 2])) (sSeq (sIf (bE (eOp eqF (eV 2) (eC (.int 1)))) (sRet (eOp subF (eNeg (eV 1)) (eC (.int 1)))) (sNext)) (r0_unfolded))
def f_unfolded : List PV → RP := runP 1 3 body_unfolded

def r0_unpacked : SF := sRet (eTup (aCons (eOp (addF false) (eV 2) (eOp (mulF false) (eV 4) (eV 3))) (aCons (eV 1) aNil)))
def i1_unpacked : SF := sSeq (sIf (bAnd (bE (eOp eqF (eV 4) (eC (.int 0)))) (bE (eOp gtF (eV 3) (eC (.int 1))))) (sRaise1 "BadData" "index" (aCons (eOp subF (eV 1) (eC (.int 1))) aNil)) (sNext)) (r0_unpacked)
def r2_unpacked : SF := sSeq (sAug 2 addA (eOp (mulF false) (eOp subF (eV 4) (eC (.int c_GROUP))) (eV 3))) (sSet 3 (eOp (mulF false) (eV 3) (eC (.int c_GROUP))))
def r3_unpacked : SF := sSeq (sSet 4 (eOp ixF (eV 0) (eV 1))) (sSeq (sAug 1 addA (eC (.int 1))) (sSeq (sIf (bE (eOp ltF (eV 4) (eC (.int c_GROUP)))) (i1_unpacked) (sNext)) (r2_unpacked)))
def l4_unpacked : SF := sSeq (sIf (bOr (bE (eOp geF (eV 1) (eCall lenF (aCons (eV 0) aNil)))) (bNot (bE (eChain leF ltF (eC (.int 0)) (eOp ixF (eV 0) (eV 1)) (eOp (mulF false) (eC (.int 2)) (eC (.int c_GROUP))))))) (sRaise1 "BadData" "index" (aCons (eV 1) aNil)) (sNext)) (r3_unpacked)
def body_unpacked : SF := sSeq (sSet 2 (eC (.int 0))) (sSeq (sSet 3 (eC (.int 1))) (sWhl (bT (eC (.bl true))) (l4_unpacked)))
def f_unpacked : List PV → RP := runP 2 5 body_unpacked

def l0_stretches_of : SF := sIf (bAnd (bT (eV 1)) (bE (eOp eqF (eOp ixF (eOp ixF (eV 1) (eNeg (eC (.int 1)))) (eC (.int 0))) (eV 2)))) (sAugS (eOp ixF (eV 1) (eNeg (eC (.int 1)))) (eC (.int 1)) (iOp0 fun i j => .int (i + j)) (eC (.int 1))) (sExpr (eM "list" appendF (eV 1) (aCons (eLst true (aCons (eV 2) (aCons (eC (.int 1)) aNil))) aNil)))
def r1_stretches_of : SF := sRet (eV 1)
def body_stretches_of : SF := sSeq (sSet 1 (eLst true aNil)) (sSeq (sFor (iAny (eV 0)) (gN 2) (l0_stretches_of)) (r1_stretches_of))
def f_stretches_of : List PV → RP := runP 1 3 body_stretches_of

def l0_pack_lines : SF := sSeq (sSet 1 (eOp (addF false) (eOp (addF false) (eV 1) (eCallP f_packed (aCons (eOp subF (eV 4) (eC (.int 1))) aNil))) (eCallP f_packed (aCons (eCallP f_folded (aCons (eOp subF (eV 3) (eV 2)) aNil)) aNil)))) (sSet 2 (eV 3))
def r1_pack_lines : SF := sRet (eV 1)
def body_pack_lines : SF := sSeq (sSet 1 (eLst false aNil)) (sSeq (sSet 2 (eC (.int 0))) (sSeq (sFor (iAny (eCallP f_stretches_of (aCons (eV 0) aNil))) (gU [3, 4]) (l0_pack_lines)) (r1_pack_lines)))
def f_pack_lines : List PV → RP := runP 1 5 body_pack_lines

def r0_read_stretches : SF := sSeq (sExpr (eM "list" appendF (eV 1) (aCons (eTup (aCons (eV 7) (aCons (eOp (addF false) (eV 5) (eC (.int 1))) aNil))) aNil))) (sSet 3 (eV 7))
def r1_read_stretches : SF := sSeq (sAsg (eCallP f_unpacked (aCons (eV 0) (aCons (eV 2) aNil))) (gU [6, 2])) (sSeq (sSet 7 (eOp (addF false) (eV 3) (eCallP f_unfolded (aCons (eV 6) aNil)))) (sSeq (sIf (bOr (bNot (bE (eChain leF leF (eC (.int 0)) (eV 7) (eC (.int c_LINES))))) (bAnd (bT (eV 1)) (bE (eOp eqF (eV 7) (eV 3))))) (sRaise1 "BadData" "index" (aCons (eOp subF (eV 2) (eC (.int 1))) aNil)) (sNext)) (r0_read_stretches)))
def l2_read_stretches : SF := sSeq (sAsg (eCallP f_unpacked (aCons (eV 0) (aCons (eV 2) aNil))) (gU [5, 2])) (sSeq (sAug 4 addA (eOp (addF false) (eV 5) (eC (.int 1)))) (sSeq (sIf (bE (eOp gtF (eV 4) (eC (.int c_MOST_LINES)))) (sRaise1 "BadData" "index" (aCons (eOp subF (eV 2) (eC (.int 1))) aNil)) (sNext)) (r1_read_stretches)))
def r3_read_stretches : SF := sRet (eV 1)
def body_read_stretches : SF := sSeq (sSet 1 (eLst true aNil)) (sSeq (sSet 2 (eC (.int 0))) (sSeq (sSet 3 (eC (.int 0))) (sSeq (sSet 4 (eC (.int 0))) (sSeq (sWhl (bE (eOp ltF (eV 2) (eCall lenF (aCons (eV 0) aNil)))) (l2_read_stretches)) (r3_read_stretches)))))
def f_read_stretches : List PV → RP := runP 1 8 body_read_stretches

def l0_unpack_lines : SF := sSet 1 (eOp (addF false) (eV 1) (eOp (mulF false) (eLst false (aCons (eV 2) aNil)) (eV 3)))
def r1_unpack_lines : SF := sRet (eCall tupleF (aCons (eV 1) aNil))
def body_unpack_lines : SF := sSeq (sSet 1 (eLst false aNil)) (sSeq (sFor (iAny (eCallP f_read_stretches (aCons (eV 0) aNil))) (gU [2, 3]) (l0_unpack_lines)) (r1_unpack_lines))
def f_unpack_lines : List PV → RP := runP 1 4 body_unpack_lines

def r0_line_at : SF := sAug 2 subF (eV 4)
def l1_line_at : SF := sSeq (sIf (bE (eChain leF ltF (eC (.int 0)) (eV 2) (eV 4))) (sRet (eV 3)) (sNext)) (r0_line_at)
def r2_line_at : SF := sRaise0 "BadIndex"
def body_line_at : SF := sSeq (sSet 2 (eV 1)) (sSeq (sFor (iAny (eCallP f_read_stretches (aCons (eV 0) aNil))) (gU [3, 4]) (l1_line_at)) (r2_line_at))
def f_line_at : List PV → RP := runP 2 5 body_line_at

def body_law_begin : SF := sRet (eLst true (aCons (eCall (listF false) (aCons (eV 0) aNil)) (aCons (eC (.int 0)) (aCons (eC (.int 0)) (aCons (eC (.int 7)) aNil)))))
def f_law_begin : List PV → Sto → R PV := runW 1 1 body_law_begin

def i0_law_draw : SF := sSeq (sSet 3 (eOp ixF (eOp ixF (eV 0) (eC (.int 0))) (eOp ixF (eV 0) (eC (.int 1))))) (sSeq (sAsg (eOp (addF false) (eOp ixF (eV 0) (eC (.int 1))) (eC (.int 1))) (gSubF setLF (eV 0) (eC (.int 1)))) (sIf (bE (eOp geF (eV 3) (eOp powF (eC (.int 10)) (eC (.int 18))))) (sAsg (eV 3) (gSubF setLF (eV 0) (eC (.int 2)))) (sAsg (eOp modF (eCall int1F (aCons (eOp (addF false) (eOp (addF false) (eOp (mulF false) (eOp ixF (eV 0) (eC (.int 3))) (eC (.int 48271))) (eOp (mulF false) (eV 3) (eC (.int 69621)))) (eC (.int 11))) aNil)) (eC (.int 2147483647))) (gSubF setLF (eV 0) (eC (.int 3))))))
def i1_law_draw : SF := sSeq (sSet 2 (eOp modF (eCall int1F (aCons (eOp ixF (eV 0) (eC (.int 2))) aNil)) (eV 1))) (sSeq (sAsg (eOp fdivF (eOp ixF (eV 0) (eC (.int 2))) (eV 1)) (gSubF setLF (eV 0) (eC (.int 2)))) (sRet (eV 2)))
def r2_law_draw : SF := sRet (eOp modF (eOp modF (eCall int1F (aCons (eOp (mulF false) (eOp ixF (eV 0) (eC (.int 3))) (eC (.int 16807))) aNil)) (eC (.int 2147483629))) (eV 1))
def r3_law_draw : SF := sSeq (sIf (bE (eOp gtF (eOp ixF (eV 0) (eC (.int 2))) (eC (.int 0)))) (i1_law_draw) (sNext)) (r2_law_draw)
def body_law_draw : SF := sSeq (sIf (bE (eOp eqF (eOp ixF (eV 0) (eC (.int 2))) (eC (.int 0)))) (sIf (bE (eOp ltF (eOp ixF (eV 0) (eC (.int 1))) (eCall lenF (aCons (eOp ixF (eV 0) (eC (.int 0))) aNil)))) (i0_law_draw) (sAsg (eOp modF (eCall int1F (aCons (eOp (addF false) (eOp (mulF false) (eOp ixF (eV 0) (eC (.int 3))) (eC (.int 48271))) (eC (.int 7))) aNil)) (eC (.int 2147483647))) (gSubF setLF (eV 0) (eC (.int 3))))) (sNext)) (r3_law_draw)
def f_law_draw : List PV → Sto → R PV := runW 2 4 body_law_draw

def l0_law_packed : SF := sSeq (sExpr (eM "list" appendF (eV 1) (aCons (eOp (addF false) (eC (.int 128)) (eOp modF (eCall int1F (aCons (eV 2) aNil)) (eC (.int 128)))) aNil))) (sSet 2 (eOp fdivF (eV 2) (eC (.int 128))))
def r1_law_packed : SF := sSeq (sExpr (eM "list" appendF (eV 1) (aCons (eV 2) aNil))) (sRet (eV 1))
def body_law_packed : SF := sSeq (sSet 1 (eLst true aNil)) (sSeq (sSet 2 (eV 0)) (sSeq (sWhl (bE (eOp geF (eV 2) (eC (.int 128)))) (l0_law_packed)) (r1_law_packed)))
def f_law_packed : List PV → RP := runP 1 3 body_law_packed

def r0_law_zigzag : SF := sRet (eOp subF (eOp (mulF false) (eNeg (eC (.int 2))) (eV 0)) (eC (.int 1)))
def body_law_zigzag : SF := sSeq (sIf (bE (eOp geF (eV 0) (eC (.int 0)))) (sRet (eOp (mulF false) (eC (.int 2)) (eV 0))) (sNext)) (r0_law_zigzag)
def f_law_zigzag : List PV → RP := runP 1 1 body_law_zigzag

def l0_law_like (self_law_like : List PV → RP) : SF := sIf (bNot (bT (eCallP self_law_like (aCons (eOp ixF (eV 0) (eV 2)) (aCons (eOp ixF (eV 1) (eV 2)) aNil))))) (sRet (eC (.bl false))) (sNext)
def r1_law_like (self_law_like : List PV → RP) : SF := sRet (eC (.bl true))
def r2_law_like (self_law_like : List PV → RP) : SF := sSeq (sFor (iR1 (aCons (eCall lenF (aCons (eV 1) aNil)) aNil)) (gN 2) ((l0_law_like self_law_like))) ((r1_law_like self_law_like))
def r3_law_like (self_law_like : List PV → RP) : SF := sSeq (sIf (bT (eCall isiF (aCons (eV 1) (aCons (eC (.ty "tuple")) aNil)))) (sIf (bOr (bNot (bT (eCall isiF (aCons (eV 0) (aCons (eC (.ty "tuple")) aNil))))) (bE (eOp neF (eCall lenF (aCons (eV 0) aNil)) (eCall lenF (aCons (eV 1) aNil))))) (sRet (eC (.bl false))) (sNext)) (sIf (bOr (bNot (bT (eCall isiF (aCons (eV 0) (aCons (eC (.ty "list")) aNil))))) (bE (eOp neF (eCall lenF (aCons (eV 0) aNil)) (eCall lenF (aCons (eV 1) aNil))))) (sRet (eC (.bl false))) (sNext))) ((r2_law_like self_law_like))
def r4_law_like (self_law_like : List PV → RP) : SF := sSeq (sIf (bT (eCall isiF (aCons (eV 1) (aCons (eC (.ty "str")) aNil)))) (sRet (eAnd (eCall isiF (aCons (eV 0) (aCons (eC (.ty "str")) aNil))) (eOp eqF (eV 0) (eV 1)))) (sNext)) ((r3_law_like self_law_like))
def r5_law_like (self_law_like : List PV → RP) : SF := sSeq (sIf (bT (eCall isiF (aCons (eV 1) (aCons (eC (.ty "int")) aNil)))) (sRet (eAnd (eCall isiF (aCons (eV 0) (aCons (eC (.ty "int")) aNil))) (eAnd (eNot (eCall isiF (aCons (eV 0) (aCons (eC (.ty "bool")) aNil)))) (eOp eqF (eV 0) (eV 1))))) (sNext)) ((r4_law_like self_law_like))
def r6_law_like (self_law_like : List PV → RP) : SF := sSeq (sIf (bT (eCall isiF (aCons (eV 1) (aCons (eC (.ty "bool")) aNil)))) (sRet (eAnd (eCall isiF (aCons (eV 0) (aCons (eC (.ty "bool")) aNil))) (eOp eqF (eV 0) (eV 1)))) (sNext)) ((r5_law_like self_law_like))
def body_law_like (self_law_like : List PV → RP) : SF := sSeq (sIf (bE (eU (fun p => .bl (isNP p)) (eV 1))) (sRet (eU (fun p => .bl (isNP p)) (eV 0))) (sNext)) ((r6_law_like self_law_like))
def f_law_like : Nat → List PV → RP
  | 0 => fun _ => .bad
  | n + 1 => runP 2 3 (body_law_like (f_law_like n))

def l0_law_number : SF := sSeq (sSet 2 (eOp (addF false) (eV 2) (eOp (mulF false) (eOp subF (eOp ixF (eV 0) (eV 1)) (eC (.int 128))) (eV 3)))) (sSeq (sSet 3 (eOp (mulF false) (eV 3) (eC (.int 128)))) (sSet 1 (eOp (addF false) (eV 1) (eC (.int 1)))))
def r1_law_number : SF := sRet (eLst false (aCons (eOp (addF false) (eV 2) (eOp (mulF false) (eOp ixF (eV 0) (eV 1)) (eV 3))) (aCons (eOp (addF false) (eV 1) (eC (.int 1))) aNil)))
def r2_law_number : SF := sSeq (sIf (bOr (bE (eOp geF (eV 1) (eCall lenF (aCons (eV 0) aNil)))) (bOr (bNot (bE (eChain leF leF (eC (.int 0)) (eOp ixF (eV 0) (eV 1)) (eC (.int 255))))) (bAnd (bE (eOp eqF (eOp ixF (eV 0) (eV 1)) (eC (.int 0)))) (bE (eOp gtF (eV 3) (eC (.int 1))))))) (sRet (eLst false (aCons (eNeg (eC (.int 1))) (aCons (eV 1) aNil)))) (sNext)) (r1_law_number)
def body_law_number : SF := sSeq (sSet 2 (eC (.int 0))) (sSeq (sSet 3 (eC (.int 1))) (sSeq (sWhl (bAnd (bE (eOp ltF (eV 1) (eCall lenF (aCons (eV 0) aNil)))) (bE (eChain leF leF (eC (.int 128)) (eOp ixF (eV 0) (eV 1)) (eC (.int 255))))) (l0_law_number)) (r2_law_number)))
def f_law_number : List PV → RP := runP 2 4 body_law_number

def r0_law_wrong : SF := sSet 4 (eC (.bl false))
def r1_law_wrong : SF := sSeq (sSet 2 (eOp (addF false) (eV 2) (eV 7))) (sSeq (sIf (bOr (bNot (bE (eChain leF leF (eC (.int 0)) (eV 2) (eOp powF (eC (.int 10)) (eC (.int 6)))))) (bAnd (bE (eOp eqF (eV 7) (eC (.int 0)))) (bNot (bT (eV 4))))) (sRet (eOp subF (eV 1) (eC (.int 1)))) (sNext)) (r0_law_wrong))
def r2_law_wrong : SF := sSeq (sSet 7 (eOp fdivF (eV 6) (eC (.int 2)))) (sSeq (sIf (bE (eOp eqF (eOp modF (eCall int1F (aCons (eV 6) aNil)) (eC (.int 2))) (eC (.int 1)))) (sSet 7 (eOp subF (eNeg (eOp fdivF (eV 6) (eC (.int 2)))) (eC (.int 1)))) (sNext)) (r1_law_wrong))
def r3_law_wrong : SF := sSeq (sAsg (eCallP f_law_number (aCons (eV 0) (aCons (eV 1) aNil))) (gU [6, 1])) (sSeq (sIf (bE (eOp ltF (eV 6) (eC (.int 0)))) (sRet (eV 1)) (sNext)) (r2_law_wrong))
def r4_law_wrong : SF := sSeq (sSet 3 (eOp (addF false) (eOp (addF false) (eV 3) (eV 5)) (eC (.int 1)))) (sSeq (sIf (bE (eOp gtF (eV 3) (eC (.int 10000)))) (sRet (eOp subF (eV 1) (eC (.int 1)))) (sNext)) (r3_law_wrong))
def l5_law_wrong : SF := sSeq (sAsg (eCallP f_law_number (aCons (eV 0) (aCons (eV 1) aNil))) (gU [5, 1])) (sSeq (sIf (bE (eOp ltF (eV 5) (eC (.int 0)))) (sRet (eV 1)) (sNext)) (r4_law_wrong))
def r6_law_wrong : SF := sRet (eNeg (eC (.int 1)))
def body_law_wrong : SF := sSeq (sSet 1 (eC (.int 0))) (sSeq (sSet 2 (eC (.int 0))) (sSeq (sSet 3 (eC (.int 0))) (sSeq (sSet 4 (eC (.bl true))) (sSeq (sWhl (bE (eOp ltF (eV 1) (eCall lenF (aCons (eV 0) aNil)))) (l5_law_wrong)) (r6_law_wrong)))))
def f_law_wrong : List PV → RP := runP 1 8 body_law_wrong

def l0_law : SF := sSeq (sSet 8 (eOp ixF (eLst false (aCons (eC (.int 0)) (aCons (eC (.int 1)) (aCons (eC (.int 2)) (aCons (eC (.int 64)) (aCons (eC (.int 8192)) (aCons (eOp powF (eC (.int 10)) (eC (.int 6))) (aCons (eCallW f_law_draw (aCons (eV 1) (aCons (eOp powF (eC (.int 10)) (eC (.int 6))) aNil))) aNil)))))))) (eCallW f_law_draw (aCons (eV 1) (aCons (eC (.int 7)) aNil))))) (sSet 2 (eOp (addF false) (eV 2) (eLc false (iR1 (aCons (eOp ixF (eLst false (aCons (eC (.int 1)) (aCons (eC (.int 2)) (aCons (eC (.int 129)) aNil)))) (eCallW f_law_draw (aCons (eV 1) (aCons (eC (.int 3)) aNil)))) aNil)) (gN 15) (bYes) (eV 8) [15])))
def i1_law : SF := sSeq (sSet 9 (eLst false (aCons (eC (.int 0)) (aCons (eC (.int 1)) (aCons (eC (.int 2)) (aCons (eC (.int 127)) (aCons (eC (.int 128)) (aCons (eC (.int 255)) (aCons (eC (.int 129)) (aCons (eCallW f_law_draw (aCons (eV 1) (aCons (eC (.int 256)) aNil))) aNil)))))))))) (sSet 4 (eLc false (iR1 (aCons (eCallW f_law_draw (aCons (eV 1) (aCons (eC (.int 9)) aNil))) aNil)) (gN 3) (bYes) (eOp ixF (eV 9) (eCallW f_law_draw (aCons (eV 1) (aCons (eC (.int 8)) aNil)))) [3]))
def i2_law : SF := sSeq (sSet 9 (eLst false (aCons (eLst false (aCons (eC (.int 143)) (aCons (eC (.int 78)) (aCons (eC (.int 2)) aNil)))) (aCons (eLst false (aCons (eC (.int 144)) (aCons (eC (.int 78)) (aCons (eC (.int 2)) aNil)))) (aCons (eLst false (aCons (eC (.int 142)) (aCons (eC (.int 78)) (aCons (eC (.int 2)) (aCons (eC (.int 0)) (aCons (eC (.int 4)) aNil)))))) (aCons (eLst false (aCons (eC (.int 142)) (aCons (eC (.int 78)) (aCons (eC (.int 2)) (aCons (eC (.int 1)) (aCons (eC (.int 4)) aNil)))))) (aCons (eLst false (aCons (eC (.int 143)) (aCons (eC (.int 78)) (aCons (eC (.int 2)) (aCons (eC (.int 0)) (aCons (eC (.int 4)) aNil)))))) aNil))))))) (sSet 4 (eOp ixF (eV 9) (eCallW f_law_draw (aCons (eV 1) (aCons (eC (.int 5)) aNil)))))
def l3_law : SF := sSeq (sSet 10 (eCallW f_law_draw (aCons (eV 1) (aCons (eOp (addF false) (eCall lenF (aCons (eV 4) aNil)) (eC (.int 1))) aNil)))) (sSeq (sSet 11 (eOp ixF (eLst false (aCons (eC (.int 0)) (aCons (eC (.int 1)) (aCons (eC (.int 127)) (aCons (eC (.int 128)) (aCons (eC (.int 255)) (aCons (eC (.int 256)) (aCons (eNeg (eC (.int 1))) (aCons (eOp powF (eC (.int 10)) (eC (.int 20))) aNil))))))))) (eCallW f_law_draw (aCons (eV 1) (aCons (eC (.int 8)) aNil))))) (sSeq (sSet 12 (eCallW f_law_draw (aCons (eV 1) (aCons (eC (.int 4)) aNil)))) (sSeq (sSet 13 (eLst false (aCons (eOp (addF false) (eOp (addF false) (eSl false (eV 4) oN (oS (eV 10))) (eLst false (aCons (eV 11) aNil))) (eSl false (eV 4) (oS (eV 10)) oN)) (aCons (eOp (addF false) (eOp (addF false) (eSl false (eV 4) oN (oS (eV 10))) (eLst false (aCons (eV 11) aNil))) (eSl false (eV 4) (oS (eOp (addF false) (eV 10) (eC (.int 1)))) oN)) (aCons (eOp (addF false) (eSl false (eV 4) oN (oS (eV 10))) (eSl false (eV 4) (oS (eOp (addF false) (eV 10) (eC (.int 1)))) oN)) (aCons (eSl false (eV 4) oN (oS (eV 10))) aNil)))))) (sSet 4 (eOp ixF (eV 13) (eV 12))))))
def r4_law : SF := sRet (eAnd (eOp eqF (eOp ixF (eV 6) (eC (.int 0))) (eC (.str "good"))) (eAnd (eOp eqF (eV 7) (eLst false (aCons (eC (.str "index")) (aCons (eNeg (eC (.int 1))) aNil)))) (eCallP (f_law_like 10) (aCons (eCallP f_pack_lines (aCons (eOp ixF (eV 6) (eC (.int 1))) aNil)) (aCons (eV 4) aNil)))))
def r5_law : SF := sSeq (sIf (bE (eOp geF (eV 5) (eC (.int 0)))) (sRet (eAnd (eOp eqF (eV 6) (eLst false (aCons (eC (.str "bad")) (aCons (eV 5) aNil)))) (eOp eqF (eV 7) (eLst false (aCons (eC (.str "bad")) (aCons (eV 5) aNil)))))) (sNext)) (r4_law)
def r6_law : SF := sSeq (sTryX (sSet 7 (eLst false (aCons (eC (.str "good")) (aCons (eCallP f_line_at (aCons (eV 4) (aCons (eNeg (eC (.int 1))) aNil))) aNil)))) [([("TableError", false), ("BadIndex", false), ("BadData", true)], xAs 14 (xSet 7 (vDisp .lst (vsCons (vC (.str "bad")) (vsCons (vFld "BadData" "index") vsNil))))), ([("TableError", false), ("BadIndex", true), ("BadData", false)], xPlain (sSet 7 (eLst false (aCons (eC (.str "index")) (aCons (eNeg (eC (.int 1))) aNil)))))]) (r5_law)
def r7_law : SF := sSeq (sSet 5 (eCallP f_law_wrong (aCons (eV 4) aNil))) (sSeq (sSet 6 (eLst false aNil)) (sSeq (sSet 7 (eC .non)) (sSeq (sTryX (sSet 6 (eLst false (aCons (eC (.str "good")) (aCons (eCallP f_unpack_lines (aCons (eV 4) aNil)) aNil)))) [([("TableError", false), ("BadIndex", false), ("BadData", true)], xAs 14 (xSet 6 (vDisp .lst (vsCons (vC (.str "bad")) (vsCons (vFld "BadData" "index") vsNil)))))]) (r6_law))))
def r8_law : SF := sSeq (sFor (iR1 (aCons (eCallW f_law_draw (aCons (eV 1) (aCons (eC (.int 3)) aNil))) aNil)) (gN 3) (l3_law)) (r7_law)
def r9_law : SF := sSeq (sIf (bE (eOp eqF (eCallW f_law_draw (aCons (eV 1) (aCons (eC (.int 9)) aNil))) (eC (.int 0)))) (i2_law) (sNext)) (r8_law)
def r10_law : SF := sSeq (sSet 4 (eCallP f_pack_lines (aCons (eV 2) aNil))) (sSeq (sIf (bE (eOp eqF (eCallW f_law_draw (aCons (eV 1) (aCons (eC (.int 5)) aNil))) (eC (.int 0)))) (i1_law) (sNext)) (r9_law))
def body_law : SF := sSeq (sSet 1 (eCallW f_law_begin (aCons (eV 0) aNil))) (sSeq (sSet 2 (eLst false aNil)) (sSeq (sFor (iR1 (aCons (eCallW f_law_draw (aCons (eV 1) (aCons (eC (.int 5)) aNil))) aNil)) (gN 3) (l0_law)) (r10_law)))
def f_law : List PV → RP := runP 1 16 body_law
end Law

namespace Law
open PySem PySem.Spec PyProof.Rows L2 Pv
def topS (i : Nat) : Stmt := PySem.Challenge.pw_codetables_k26_packed_lines_refused.main.body.getD i (.Pass ⟨0, 0, 0, 0⟩)
theorem sc_packed : FnScope ["number", "data", "low"] ["number"] (defScope (topS 8)) := ⟨rfl, rfl, rfl, by decide +kernel, rfl, by decide +kernel, by decide +kernel⟩
theorem d_packed {P : Program} {w : World} {K : PySem.W.Frag} {mg : Str → Option Value} {base : Heap} (F : DefAt K mg "packed" (topS 8) ["number"]) (k_GROUP : ∃ t, mg "GROUP" = some (.int c_GROUP t)) (z_divmod : mg "divmod" = none) : Cal P w K mg base 1 "packed" (spP ⟨K, mg⟩ f_packed) := by
  obtain ⟨f, fd, F, hm, hb⟩ := F
  refine Cal.mkP F hm sc_packed hb rfl rfl fun X W e1 e2 e3 e4 e5 b => ?_
  subst e1 e2 e3 e4 e5
  have nd := sc_packed.nd
  have g_GROUP := b.gl "GROUP" (by decide +kernel)
  have g_divmod := b.gl "divmod" (by decide +kernel)
  have v0 := fun {pos : Pos} => b.v (pos := pos) 0 "number" (by decide +kernel)
  have v1 := fun {pos : Pos} => b.v (pos := pos) 1 "data" (by decide +kernel)
  have v2 := fun {pos : Pos} => b.v (pos := pos) 2 "low" (by decide +kernel)
  exact (Ss.cons (b.set nd 1 "data" (by decide +kernel) (E.lst true A.nil))
  (Ss.cons (St.whl b.po (B.ge v0 (E.gint g_GROUP k_GROUP)) (Ss.cons (St.asg (E.callB call_divmod cf_divmod g_divmod z_divmod (by decide +kernel) (A.cons v0 (A.cons (E.gint g_GROUP k_GROUP) A.nil))) (Tg.un b.calm (gns_cons (b.pg nd 0 "number" (by decide +kernel)) (gns_cons (b.pg nd 2 "low" (by decide +kernel)) gns_nil))))
  (Ss.one (St.expr (E.bm PySem.F.plainAttrs_list PySem.F.slot_list_append PySem.F.type_list_append mt_append mtf_append v1 (A.cons (E.add false v2 (E.gint g_GROUP k_GROUP)) A.nil))))))
  (Ss.cons (St.expr (E.bm PySem.F.plainAttrs_list PySem.F.slot_list_append PySem.F.type_list_append mt_append mtf_append v1 (A.cons v0 A.nil)))
  (Ss.one (St.ret v1)))))

theorem sc_folded : FnScope ["number"] ["number"] (defScope (topS 9)) := ⟨rfl, rfl, rfl, by decide +kernel, rfl, by decide +kernel, by decide +kernel⟩
theorem d_folded {P : Program} {w : World} {K : PySem.W.Frag} {mg : Str → Option Value} {base : Heap} (F : DefAt K mg "folded" (topS 9) ["number"])  : Cal P w K mg base 1 "folded" (spP ⟨K, mg⟩ f_folded) := by
  obtain ⟨f, fd, F, hm, hb⟩ := F
  refine Cal.mkP F hm sc_folded hb rfl rfl fun X W e1 e2 e3 e4 e5 b => ?_
  subst e1 e2 e3 e4 e5
  have nd := sc_folded.nd
  have v0 := fun {pos : Pos} => b.v (pos := pos) 0 "number" (by decide +kernel)
  exact (Ss.cons (St.ite (B.ge v0 E.int) (Ss.one (St.ret (E.mul false E.int v0))) Ss.nil)
  (Ss.one (St.ret (E.sub (E.mul false (E.neg un_neg E.int) v0) E.int))))

theorem sc_unfolded : FnScope ["number", "half", "odd"] ["number"] (defScope (topS 10)) := ⟨rfl, rfl, rfl, by decide +kernel, rfl, by decide +kernel, by decide +kernel⟩
theorem d_unfolded {P : Program} {w : World} {K : PySem.W.Frag} {mg : Str → Option Value} {base : Heap} (F : DefAt K mg "unfolded" (topS 10) ["number"]) (z_divmod : mg "divmod" = none) : Cal P w K mg base 1 "unfolded" (spP ⟨K, mg⟩ f_unfolded) := by
  obtain ⟨f, fd, F, hm, hb⟩ := F
  refine Cal.mkP F hm sc_unfolded hb rfl rfl fun X W e1 e2 e3 e4 e5 b => ?_
  subst e1 e2 e3 e4 e5
  have nd := sc_unfolded.nd
  have g_divmod := b.gl "divmod" (by decide +kernel)
  have v0 := fun {pos : Pos} => b.v (pos := pos) 0 "number" (by decide +kernel)
  have v2 := fun {pos : Pos} => b.v (pos := pos) 2 "odd" (by decide +kernel)
  have v1 := fun {pos : Pos} => b.v (pos := pos) 1 "half" (by decide +kernel)
  exact (Ss.cons (St.asg (E.callB call_divmod cf_divmod g_divmod z_divmod (by decide +kernel) (A.cons v0 (A.cons E.int A.nil))) (Tg.un b.calm (gns_cons (b.pg nd 1 "half" (by decide +kernel)) (gns_cons (b.pg nd 2 "odd" (by decide +kernel)) gns_nil))))
  (Ss.cons (St.ite (B.eq b.hu v2 E.int) (Ss.one (St.ret (E.sub (E.neg un_neg v1) E.int))) Ss.nil)
  (Ss.one (St.ret v1))))

theorem sc_unpacked : FnScope ["data", "at", "number", "factor", "low"] ["data", "at"] (defScope (topS 11)) := ⟨rfl, rfl, rfl, by decide +kernel, rfl, by decide +kernel, by decide +kernel⟩
theorem d_unpacked {P : Program} {w : World} {K : PySem.W.Frag} {mg : Str → Option Value} {base : Heap} (F : DefAt K mg "unpacked" (topS 11) ["data", "at"]) (k_GROUP : ∃ t, mg "GROUP" = some (.int c_GROUP t)) (z_len : mg "len" = none) (x_BadData : ExcI P w K mg base "BadData" "index" (He.ga K "BadData")) : Cal P w K mg base 3 "unpacked" (spP ⟨K, mg⟩ f_unpacked) := by
  obtain ⟨f, fd, F, hm, hb⟩ := F
  refine Cal.mkP F hm sc_unpacked hb rfl rfl fun X W e1 e2 e3 e4 e5 b => ?_
  subst e1 e2 e3 e4 e5
  have nd := sc_unpacked.nd
  have g_GROUP := b.gl "GROUP" (by decide +kernel)
  have g_len := b.gl "len" (by decide +kernel)
  have g_BadData := b.gl "BadData" (by decide +kernel)
  have v0 := fun {pos : Pos} => b.v (pos := pos) 0 "data" (by decide +kernel)
  have v1 := fun {pos : Pos} => b.v (pos := pos) 1 "at" (by decide +kernel)
  have v4 := fun {pos : Pos} => b.v (pos := pos) 4 "low" (by decide +kernel)
  have v3 := fun {pos : Pos} => b.v (pos := pos) 3 "factor" (by decide +kernel)
  have v2 := fun {pos : Pos} => b.v (pos := pos) 2 "number" (by decide +kernel)
  exact (Ss.cons (b.set nd 2 "number" (by decide +kernel) E.int)
  (Ss.cons (b.set nd 3 "factor" (by decide +kernel) E.int)
  (Ss.one (St.whl b.po (B.tru E.bl) (Ss.cons (St.ite (BW.t (BW.or (B.ge v1 (E.callB cr_len cf_len g_len z_len (by decide +kernel) (A.cons v0 A.nil))) (BW.or1 (B.not (B.chain op_le op_lt opf_B0 opf_B0 E.int (E.ix v0 v1) (E.mul false E.int (E.gint g_GROUP k_GROUP))))))) (Ss.one (St.raise1 b.calm b.tk x_BadData b.room (by decide) g_BadData (A.cons v1 A.nil))) Ss.nil)
  (Ss.cons (b.set nd 4 "low" (by decide +kernel) (E.ix v0 v1))
  (Ss.cons (b.aug nd 1 "at" (by decide +kernel) pip_addA opf_addA E.int)
  (Ss.cons (St.ite (B.lt v4 (E.gint g_GROUP k_GROUP)) (Ss.cons (St.ite (BW.t (BW.and (B.eq b.hu v4 E.int) (BW.and1 (B.gt v3 E.int)))) (Ss.one (St.raise1 b.calm b.tk x_BadData b.room (by decide) g_BadData (A.cons (E.sub v1 E.int) A.nil))) Ss.nil)
  (Ss.one (St.ret (E.tup (A.cons (E.add false v2 (E.mul false v4 v3)) (A.cons v1 A.nil)))))) Ss.nil)
  (Ss.cons (b.aug nd 2 "number" (by decide +kernel) pip_addA opf_addA (E.mul false (E.sub v4 (E.gint g_GROUP k_GROUP)) v3))
  (Ss.one (b.set nd 3 "factor" (by decide +kernel) (E.mul false v3 (E.gint g_GROUP k_GROUP)))))))))))))

theorem sc_stretches_of : FnScope ["lines", "found", "line"] ["lines"] (defScope (topS 12)) := ⟨rfl, rfl, rfl, by decide +kernel, rfl, by decide +kernel, by decide +kernel⟩
theorem d_stretches_of {P : Program} {w : World} {K : PySem.W.Frag} {mg : Str → Option Value} {base : Heap} (F : DefAt K mg "stretches_of" (topS 12) ["lines"])  : Cal P w K mg base 1 "stretches_of" (spP ⟨K, mg⟩ f_stretches_of) := by
  obtain ⟨f, fd, F, hm, hb⟩ := F
  refine Cal.mkP F hm sc_stretches_of hb rfl rfl fun X W e1 e2 e3 e4 e5 b => ?_
  subst e1 e2 e3 e4 e5
  have nd := sc_stretches_of.nd
  have v0 := fun {pos : Pos} => b.v (pos := pos) 0 "lines" (by decide +kernel)
  have v1 := fun {pos : Pos} => b.v (pos := pos) 1 "found" (by decide +kernel)
  have v2 := fun {pos : Pos} => b.v (pos := pos) 2 "line" (by decide +kernel)
  have t2 := fun {pos : Pos} => b.t (pos := pos) nd 2 "line" (by decide +kernel)
  exact (Ss.cons (b.set nd 1 "found" (by decide +kernel) (E.lst true A.nil))
  (Ss.cons (St.for b.po b.calm (I.any v0) t2 (Ss.one (St.ite (BW.t (BW.and (B.tru v1) (BW.and1 (B.eq b.hu (E.ix (E.ix v1 (E.neg un_neg E.int)) E.int) v2)))) (Ss.one (St.augS (E.ix v1 (E.neg un_neg E.int)) E.int pip_add opf_add0 E.int)) (Ss.one (St.expr (E.bm PySem.F.plainAttrs_list PySem.F.slot_list_append PySem.F.type_list_append mt_append mtf_append v1 (A.cons (E.lst true (A.cons v2 (A.cons E.int A.nil))) A.nil)))))))
  (Ss.one (St.ret v1))))

theorem sc_pack_lines : FnScope ["lines", "data", "before", "line", "many"] ["lines"] (defScope (topS 13)) := ⟨rfl, rfl, rfl, by decide +kernel, rfl, by decide +kernel, by decide +kernel⟩
theorem d_pack_lines {P : Program} {w : World} {K : PySem.W.Frag} {mg : Str → Option Value} {base : Heap} (F : DefAt K mg "pack_lines" (topS 13) ["lines"]) (c_stretches_of : Cal P w K mg base 1 "stretches_of" (spP ⟨K, mg⟩ f_stretches_of)) (c_packed : Cal P w K mg base 1 "packed" (spP ⟨K, mg⟩ f_packed)) (c_folded : Cal P w K mg base 1 "folded" (spP ⟨K, mg⟩ f_folded)) : Cal P w K mg base 2 "pack_lines" (spP ⟨K, mg⟩ f_pack_lines) := by
  obtain ⟨f, fd, F, hm, hb⟩ := F
  refine Cal.mkP F hm sc_pack_lines hb rfl rfl fun X W e1 e2 e3 e4 e5 b => ?_
  subst e1 e2 e3 e4 e5
  have nd := sc_pack_lines.nd
  have g_stretches_of := b.gl "stretches_of" (by decide +kernel)
  have g_packed := b.gl "packed" (by decide +kernel)
  have g_folded := b.gl "folded" (by decide +kernel)
  have v0 := fun {pos : Pos} => b.v (pos := pos) 0 "lines" (by decide +kernel)
  have v1 := fun {pos : Pos} => b.v (pos := pos) 1 "data" (by decide +kernel)
  have v4 := fun {pos : Pos} => b.v (pos := pos) 4 "many" (by decide +kernel)
  have v3 := fun {pos : Pos} => b.v (pos := pos) 3 "line" (by decide +kernel)
  have v2 := fun {pos : Pos} => b.v (pos := pos) 2 "before" (by decide +kernel)
  exact (Ss.cons (b.set nd 1 "data" (by decide +kernel) (E.lst false A.nil))
  (Ss.cons (b.set nd 2 "before" (by decide +kernel) E.int)
  (Ss.cons (St.for b.po b.calm (I.any (E.call c_stretches_of b.room b.tk g_stretches_of (A.cons v0 A.nil))) (Tg.un b.calm (gns_cons (b.pg nd 3 "line" (by decide +kernel)) (gns_cons (b.pg nd 4 "many" (by decide +kernel)) gns_nil))) (Ss.cons (b.set nd 1 "data" (by decide +kernel) (E.add false (E.add false v1 (E.call c_packed b.room b.tk g_packed (A.cons (E.sub v4 E.int) A.nil))) (E.call c_packed b.room b.tk g_packed (A.cons (E.call c_folded b.room b.tk g_folded (A.cons (E.sub v3 v2) A.nil)) A.nil))))
  (Ss.one (b.set nd 2 "before" (by decide +kernel) v3))))
  (Ss.one (St.ret v1)))))

theorem sc_read_stretches : FnScope ["data", "found", "at", "line", "total", "many", "step", "other"] ["data"] (defScope (topS 14)) := ⟨rfl, rfl, rfl, by decide +kernel, rfl, by decide +kernel, by decide +kernel⟩
theorem d_read_stretches {P : Program} {w : World} {K : PySem.W.Frag} {mg : Str → Option Value} {base : Heap} (F : DefAt K mg "read_stretches" (topS 14) ["data"]) (c_unpacked : Cal P w K mg base 3 "unpacked" (spP ⟨K, mg⟩ f_unpacked)) (c_unfolded : Cal P w K mg base 1 "unfolded" (spP ⟨K, mg⟩ f_unfolded)) (z_len : mg "len" = none) (k_MOST_LINES : ∃ t, mg "MOST_LINES" = some (.int c_MOST_LINES t)) (x_BadData : ExcI P w K mg base "BadData" "index" (He.ga K "BadData")) (k_LINES : ∃ t, mg "LINES" = some (.int c_LINES t)) : Cal P w K mg base 4 "read_stretches" (spP ⟨K, mg⟩ f_read_stretches) := by
  obtain ⟨f, fd, F, hm, hb⟩ := F
  refine Cal.mkP F hm sc_read_stretches hb rfl rfl fun X W e1 e2 e3 e4 e5 b => ?_
  subst e1 e2 e3 e4 e5
  have nd := sc_read_stretches.nd
  have g_len := b.gl "len" (by decide +kernel)
  have g_unpacked := b.gl "unpacked" (by decide +kernel)
  have g_MOST_LINES := b.gl "MOST_LINES" (by decide +kernel)
  have g_BadData := b.gl "BadData" (by decide +kernel)
  have g_unfolded := b.gl "unfolded" (by decide +kernel)
  have g_LINES := b.gl "LINES" (by decide +kernel)
  have v2 := fun {pos : Pos} => b.v (pos := pos) 2 "at" (by decide +kernel)
  have v0 := fun {pos : Pos} => b.v (pos := pos) 0 "data" (by decide +kernel)
  have v5 := fun {pos : Pos} => b.v (pos := pos) 5 "many" (by decide +kernel)
  have v4 := fun {pos : Pos} => b.v (pos := pos) 4 "total" (by decide +kernel)
  have v3 := fun {pos : Pos} => b.v (pos := pos) 3 "line" (by decide +kernel)
  have v6 := fun {pos : Pos} => b.v (pos := pos) 6 "step" (by decide +kernel)
  have v7 := fun {pos : Pos} => b.v (pos := pos) 7 "other" (by decide +kernel)
  have v1 := fun {pos : Pos} => b.v (pos := pos) 1 "found" (by decide +kernel)
  exact (Ss.cons (b.set nd 1 "found" (by decide +kernel) (E.lst true A.nil))
  (Ss.cons (b.set nd 2 "at" (by decide +kernel) E.int)
  (Ss.cons (b.set nd 3 "line" (by decide +kernel) E.int)
  (Ss.cons (b.set nd 4 "total" (by decide +kernel) E.int)
  (Ss.cons (St.whl b.po (B.lt v2 (E.callB cr_len cf_len g_len z_len (by decide +kernel) (A.cons v0 A.nil))) (Ss.cons (St.asg (E.call c_unpacked b.room b.tk g_unpacked (A.cons v0 (A.cons v2 A.nil))) (Tg.un b.calm (gns_cons (b.pg nd 5 "many" (by decide +kernel)) (gns_cons (b.pg nd 2 "at" (by decide +kernel)) gns_nil))))
  (Ss.cons (b.aug nd 4 "total" (by decide +kernel) pip_addA opf_addA (E.add false v5 E.int))
  (Ss.cons (St.ite (B.gt v4 (E.gint g_MOST_LINES k_MOST_LINES)) (Ss.one (St.raise1 b.calm b.tk x_BadData b.room (by decide) g_BadData (A.cons (E.sub v2 E.int) A.nil))) Ss.nil)
  (Ss.cons (St.asg (E.call c_unpacked b.room b.tk g_unpacked (A.cons v0 (A.cons v2 A.nil))) (Tg.un b.calm (gns_cons (b.pg nd 6 "step" (by decide +kernel)) (gns_cons (b.pg nd 2 "at" (by decide +kernel)) gns_nil))))
  (Ss.cons (b.set nd 7 "other" (by decide +kernel) (E.add false v3 (E.call c_unfolded b.room b.tk g_unfolded (A.cons v6 A.nil))))
  (Ss.cons (St.ite (BW.t (BW.or (B.not (B.chain op_le op_le opf_B0 opf_B0 E.int v7 (E.gint g_LINES k_LINES))) (BW.or1 (BW.t (BW.and (B.tru v1) (BW.and1 (B.eq b.hu v7 v3))))))) (Ss.one (St.raise1 b.calm b.tk x_BadData b.room (by decide) g_BadData (A.cons (E.sub v2 E.int) A.nil))) Ss.nil)
  (Ss.cons (St.expr (E.bm PySem.F.plainAttrs_list PySem.F.slot_list_append PySem.F.type_list_append mt_append mtf_append v1 (A.cons (E.tup (A.cons v7 (A.cons (E.add false v5 E.int) A.nil))) A.nil)))
  (Ss.one (b.set nd 3 "line" (by decide +kernel) v7))))))))))
  (Ss.one (St.ret v1)))))))

theorem sc_unpack_lines : FnScope ["data", "lines", "line", "many"] ["data"] (defScope (topS 15)) := ⟨rfl, rfl, rfl, by decide +kernel, rfl, by decide +kernel, by decide +kernel⟩
theorem d_unpack_lines {P : Program} {w : World} {K : PySem.W.Frag} {mg : Str → Option Value} {base : Heap} (F : DefAt K mg "unpack_lines" (topS 15) ["data"]) (c_read_stretches : Cal P w K mg base 4 "read_stretches" (spP ⟨K, mg⟩ f_read_stretches)) (z_tuple : mg "tuple" = none) : Cal P w K mg base 5 "unpack_lines" (spP ⟨K, mg⟩ f_unpack_lines) := by
  obtain ⟨f, fd, F, hm, hb⟩ := F
  refine Cal.mkP F hm sc_unpack_lines hb rfl rfl fun X W e1 e2 e3 e4 e5 b => ?_
  subst e1 e2 e3 e4 e5
  have nd := sc_unpack_lines.nd
  have g_read_stretches := b.gl "read_stretches" (by decide +kernel)
  have g_tuple := b.gl "tuple" (by decide +kernel)
  have v0 := fun {pos : Pos} => b.v (pos := pos) 0 "data" (by decide +kernel)
  have v1 := fun {pos : Pos} => b.v (pos := pos) 1 "lines" (by decide +kernel)
  have v2 := fun {pos : Pos} => b.v (pos := pos) 2 "line" (by decide +kernel)
  have v3 := fun {pos : Pos} => b.v (pos := pos) 3 "many" (by decide +kernel)
  exact (Ss.cons (b.set nd 1 "lines" (by decide +kernel) (E.lst false A.nil))
  (Ss.cons (St.for b.po b.calm (I.any (E.call c_read_stretches b.room b.tk g_read_stretches (A.cons v0 A.nil))) (Tg.un b.calm (gns_cons (b.pg nd 2 "line" (by decide +kernel)) (gns_cons (b.pg nd 3 "many" (by decide +kernel)) gns_nil))) (Ss.one (b.set nd 1 "lines" (by decide +kernel) (E.add false v1 (E.mul false (E.lst false (A.cons v2 A.nil)) v3)))))
  (Ss.one (St.ret (E.callTy call_tuple_of cf_tuple g_tuple z_tuple (by decide +kernel) (A.cons v1 A.nil))))))

theorem sc_line_at : FnScope ["data", "index", "rest", "line", "many"] ["data", "index"] (defScope (topS 16)) := ⟨rfl, rfl, rfl, by decide +kernel, rfl, by decide +kernel, by decide +kernel⟩
theorem d_line_at {P : Program} {w : World} {K : PySem.W.Frag} {mg : Str → Option Value} {base : Heap} (F : DefAt K mg "line_at" (topS 16) ["data", "index"]) (c_read_stretches : Cal P w K mg base 4 "read_stretches" (spP ⟨K, mg⟩ f_read_stretches)) (x_BadIndex : ExcC K mg "BadIndex" (He.ga K "BadIndex")) : Cal P w K mg base 5 "line_at" (spP ⟨K, mg⟩ f_line_at) := by
  obtain ⟨f, fd, F, hm, hb⟩ := F
  refine Cal.mkP F hm sc_line_at hb rfl rfl fun X W e1 e2 e3 e4 e5 b => ?_
  subst e1 e2 e3 e4 e5
  have nd := sc_line_at.nd
  have g_read_stretches := b.gl "read_stretches" (by decide +kernel)
  have g_BadIndex := b.gl "BadIndex" (by decide +kernel)
  have v1 := fun {pos : Pos} => b.v (pos := pos) 1 "index" (by decide +kernel)
  have v0 := fun {pos : Pos} => b.v (pos := pos) 0 "data" (by decide +kernel)
  have v2 := fun {pos : Pos} => b.v (pos := pos) 2 "rest" (by decide +kernel)
  have v4 := fun {pos : Pos} => b.v (pos := pos) 4 "many" (by decide +kernel)
  have v3 := fun {pos : Pos} => b.v (pos := pos) 3 "line" (by decide +kernel)
  exact (Ss.cons (b.set nd 2 "rest" (by decide +kernel) v1)
  (Ss.cons (St.for b.po b.calm (I.any (E.call c_read_stretches b.room b.tk g_read_stretches (A.cons v0 A.nil))) (Tg.un b.calm (gns_cons (b.pg nd 3 "line" (by decide +kernel)) (gns_cons (b.pg nd 4 "many" (by decide +kernel)) gns_nil))) (Ss.cons (St.ite (B.chain op_le op_lt opf_B0 opf_B0 E.int v2 v4) (Ss.one (St.ret v3)) Ss.nil)
  (Ss.one (b.aug nd 2 "rest" (by decide +kernel) pip_sub opf_I0 v4))))
  (Ss.one (St.raise0 b.calm b.tk x_BadIndex g_BadIndex))))

theorem sc_law_begin : FnScope ["_law_script"] ["_law_script"] (defScope (topS 18)) := ⟨rfl, rfl, rfl, by decide +kernel, rfl, by decide +kernel, by decide +kernel⟩
theorem d_law_begin {P : Program} {w : World} {K : PySem.W.Frag} {mg : Str → Option Value} {base : Heap} (F : DefAt K mg "_law_begin" (topS 18) ["_law_script"]) (z_list : mg "list" = none) : Cal P w K mg base 1 "_law_begin" (spW ⟨K, mg⟩ f_law_begin) := by
  obtain ⟨f, fd, F, hm, hb⟩ := F
  refine Cal.mkW F hm sc_law_begin hb rfl rfl fun X W e1 e2 e3 e4 e5 b => ?_
  subst e1 e2 e3 e4 e5
  have nd := sc_law_begin.nd
  have g_list := b.gl "list" (by decide +kernel)
  have v0 := fun {pos : Pos} => b.v (pos := pos) 0 "_law_script" (by decide +kernel)
  exact (Ss.one (St.ret (E.lst true (A.cons (E.callTy call_list_of (cf_list (mu := false)) g_list z_list (by decide +kernel) (A.cons v0 A.nil)) (A.cons E.int (A.cons E.int (A.cons E.int A.nil)))))))

theorem sc_law_draw : FnScope ["_law_draws", "_law_many", "_law_found", "_law_cell"] ["_law_draws", "_law_many"] (defScope (topS 19)) := ⟨rfl, rfl, rfl, by decide +kernel, rfl, by decide +kernel, by decide +kernel⟩
theorem d_law_draw {P : Program} {w : World} {K : PySem.W.Frag} {mg : Str → Option Value} {base : Heap} (F : DefAt K mg "_law_draw" (topS 19) ["_law_draws", "_law_many"]) (z_len : mg "len" = none) (z_int : mg "int" = none) : Cal P w K mg base 1 "_law_draw" (spW ⟨K, mg⟩ f_law_draw) := by
  obtain ⟨f, fd, F, hm, hb⟩ := F
  refine Cal.mkW F hm sc_law_draw hb rfl rfl fun X W e1 e2 e3 e4 e5 b => ?_
  subst e1 e2 e3 e4 e5
  have nd := sc_law_draw.nd
  have g_len := b.gl "len" (by decide +kernel)
  have g_int := b.gl "int" (by decide +kernel)
  have v0 := fun {pos : Pos} => b.v (pos := pos) 0 "_law_draws" (by decide +kernel)
  have v3 := fun {pos : Pos} => b.v (pos := pos) 3 "_law_cell" (by decide +kernel)
  have v1 := fun {pos : Pos} => b.v (pos := pos) 1 "_law_many" (by decide +kernel)
  have v2 := fun {pos : Pos} => b.v (pos := pos) 2 "_law_found" (by decide +kernel)
  exact (Ss.cons (St.ite (B.eq b.hu (E.ix v0 E.int) E.int) (Ss.one (St.ite (B.lt (E.ix v0 E.int) (E.callB cr_len cf_len g_len z_len (by decide +kernel) (A.cons (E.ix v0 E.int) A.nil))) (Ss.cons (b.set nd 3 "_law_cell" (by decide +kernel) (E.ix (E.ix v0 E.int) (E.ix v0 E.int)))
  (Ss.cons (St.asg (E.add false (E.ix v0 E.int) E.int) (Tg.sub v0 E.int set_list set_lst))
  (Ss.one (St.ite (B.ge v3 (E.pow E.int E.int)) (Ss.one (St.asg v3 (Tg.sub v0 E.int set_list set_lst))) (Ss.one (St.asg (E.mod (E.callTy call_int1 cf_int1 g_int z_int (by decide +kernel) (A.cons (E.add false (E.add false (E.mul false (E.ix v0 E.int) E.int) (E.mul false v3 E.int)) E.int) A.nil)) E.int) (Tg.sub v0 E.int set_list set_lst))))))) (Ss.one (St.asg (E.mod (E.callTy call_int1 cf_int1 g_int z_int (by decide +kernel) (A.cons (E.add false (E.mul false (E.ix v0 E.int) E.int) E.int) A.nil)) E.int) (Tg.sub v0 E.int set_list set_lst))))) Ss.nil)
  (Ss.cons (St.ite (B.gt (E.ix v0 E.int) E.int) (Ss.cons (b.set nd 2 "_law_found" (by decide +kernel) (E.mod (E.callTy call_int1 cf_int1 g_int z_int (by decide +kernel) (A.cons (E.ix v0 E.int) A.nil)) v1))
  (Ss.cons (St.asg (E.fdiv (E.ix v0 E.int) v1) (Tg.sub v0 E.int set_list set_lst))
  (Ss.one (St.ret v2)))) Ss.nil)
  (Ss.one (St.ret (E.mod (E.mod (E.callTy call_int1 cf_int1 g_int z_int (by decide +kernel) (A.cons (E.mul false (E.ix v0 E.int) E.int) A.nil)) E.int) v1)))))

theorem sc_law_packed : FnScope ["_law_number_here", "_law_data", "_law_rest"] ["_law_number_here"] (defScope (topS 20)) := ⟨rfl, rfl, rfl, by decide +kernel, rfl, by decide +kernel, by decide +kernel⟩
theorem d_law_packed {P : Program} {w : World} {K : PySem.W.Frag} {mg : Str → Option Value} {base : Heap} (F : DefAt K mg "_law_packed" (topS 20) ["_law_number_here"]) (z_int : mg "int" = none) : Cal P w K mg base 1 "_law_packed" (spP ⟨K, mg⟩ f_law_packed) := by
  obtain ⟨f, fd, F, hm, hb⟩ := F
  refine Cal.mkP F hm sc_law_packed hb rfl rfl fun X W e1 e2 e3 e4 e5 b => ?_
  subst e1 e2 e3 e4 e5
  have nd := sc_law_packed.nd
  have g_int := b.gl "int" (by decide +kernel)
  have v0 := fun {pos : Pos} => b.v (pos := pos) 0 "_law_number_here" (by decide +kernel)
  have v2 := fun {pos : Pos} => b.v (pos := pos) 2 "_law_rest" (by decide +kernel)
  have v1 := fun {pos : Pos} => b.v (pos := pos) 1 "_law_data" (by decide +kernel)
  exact (Ss.cons (b.set nd 1 "_law_data" (by decide +kernel) (E.lst true A.nil))
  (Ss.cons (b.set nd 2 "_law_rest" (by decide +kernel) v0)
  (Ss.cons (St.whl b.po (B.ge v2 E.int) (Ss.cons (St.expr (E.bm PySem.F.plainAttrs_list PySem.F.slot_list_append PySem.F.type_list_append mt_append mtf_append v1 (A.cons (E.add false E.int (E.mod (E.callTy call_int1 cf_int1 g_int z_int (by decide +kernel) (A.cons v2 A.nil)) E.int)) A.nil)))
  (Ss.one (b.set nd 2 "_law_rest" (by decide +kernel) (E.fdiv v2 E.int)))))
  (Ss.cons (St.expr (E.bm PySem.F.plainAttrs_list PySem.F.slot_list_append PySem.F.type_list_append mt_append mtf_append v1 (A.cons v2 A.nil)))
  (Ss.one (St.ret v1))))))

theorem sc_law_zigzag : FnScope ["_law_number_here"] ["_law_number_here"] (defScope (topS 21)) := ⟨rfl, rfl, rfl, by decide +kernel, rfl, by decide +kernel, by decide +kernel⟩
theorem d_law_zigzag {P : Program} {w : World} {K : PySem.W.Frag} {mg : Str → Option Value} {base : Heap} (F : DefAt K mg "_law_zigzag" (topS 21) ["_law_number_here"])  : Cal P w K mg base 1 "_law_zigzag" (spP ⟨K, mg⟩ f_law_zigzag) := by
  obtain ⟨f, fd, F, hm, hb⟩ := F
  refine Cal.mkP F hm sc_law_zigzag hb rfl rfl fun X W e1 e2 e3 e4 e5 b => ?_
  subst e1 e2 e3 e4 e5
  have nd := sc_law_zigzag.nd
  have v0 := fun {pos : Pos} => b.v (pos := pos) 0 "_law_number_here" (by decide +kernel)
  exact (Ss.cons (St.ite (B.ge v0 E.int) (Ss.one (St.ret (E.mul false E.int v0))) Ss.nil)
  (Ss.one (St.ret (E.sub (E.mul false (E.neg un_neg E.int) v0) E.int))))

theorem sc_law_like : FnScope ["_law_actual", "_law_due", "_law_k"] ["_law_actual", "_law_due"] (defScope (topS 22)) := ⟨rfl, rfl, rfl, by decide +kernel, rfl, by decide +kernel, by decide +kernel⟩
theorem b_law_like {self_law_like : List PV → RP} (n : Nat) {P : Program} {w : World} {K : PySem.W.Frag} {mg : Str → Option Value} {base : Heap} (F : DefAt K mg "_law_like" (topS 22) ["_law_actual", "_law_due"]) (z_bool : mg "bool" = none) (z_isinstance : mg "isinstance" = none) (z_int : mg "int" = none) (z_str : mg "str" = none) (z_tuple : mg "tuple" = none) (z_len : mg "len" = none) (z_list : mg "list" = none) (z_range : mg "range" = none) (c_law_like : Cal P w K mg base (0 + n) "_law_like" (spP ⟨K, mg⟩ self_law_like)) : Cal P w K mg base (0 + n + 1) "_law_like" (spP ⟨K, mg⟩ (runP 2 3 (body_law_like self_law_like))) := by
  obtain ⟨f, fd, F, hm, hb⟩ := F
  refine Cal.mkP F hm sc_law_like hb rfl rfl fun X W e1 e2 e3 e4 e5 b => ?_
  subst e1 e2 e3 e4 e5
  have nd := sc_law_like.nd
  have g_bool := b.gl "bool" (by decide +kernel)
  have g_isinstance := b.gl "isinstance" (by decide +kernel)
  have g_int := b.gl "int" (by decide +kernel)
  have g_str := b.gl "str" (by decide +kernel)
  have g_tuple := b.gl "tuple" (by decide +kernel)
  have g_len := b.gl "len" (by decide +kernel)
  have g_list := b.gl "list" (by decide +kernel)
  have g_range := b.gl "range" (by decide +kernel)
  have g_law_like := b.gl "_law_like" (by decide +kernel)
  have v1 := fun {pos : Pos} => b.v (pos := pos) 1 "_law_due" (by decide +kernel)
  have v0 := fun {pos : Pos} => b.v (pos := pos) 0 "_law_actual" (by decide +kernel)
  have v2 := fun {pos : Pos} => b.v (pos := pos) 2 "_law_k" (by decide +kernel)
  have t2 := fun {pos : Pos} => b.t (pos := pos) nd 2 "_law_k" (by decide +kernel)
  exact (Ss.cons (St.ite (B.isN v1) (Ss.one (St.ret (E.isN v0))) Ss.nil)
  (Ss.cons (St.ite (B.tru (E.callB call_isi cf_isi g_isinstance z_isinstance (by decide +kernel) (A.cons v1 (A.cons (E.ty g_bool z_bool (by decide +kernel)) A.nil)))) (Ss.one (St.ret (E.and (E.callB call_isi cf_isi g_isinstance z_isinstance (by decide +kernel) (A.cons v0 (A.cons (E.ty g_bool z_bool (by decide +kernel)) A.nil))) (E.one (E.eq b.hu v0 v1))))) Ss.nil)
  (Ss.cons (St.ite (B.tru (E.callB call_isi cf_isi g_isinstance z_isinstance (by decide +kernel) (A.cons v1 (A.cons (E.ty g_int z_int (by decide +kernel)) A.nil)))) (Ss.one (St.ret (E.and (E.callB call_isi cf_isi g_isinstance z_isinstance (by decide +kernel) (A.cons v0 (A.cons (E.ty g_int z_int (by decide +kernel)) A.nil))) (E.and (E.not (E.callB call_isi cf_isi g_isinstance z_isinstance (by decide +kernel) (A.cons v0 (A.cons (E.ty g_bool z_bool (by decide +kernel)) A.nil)))) (E.one (E.eq b.hu v0 v1)))))) Ss.nil)
  (Ss.cons (St.ite (B.tru (E.callB call_isi cf_isi g_isinstance z_isinstance (by decide +kernel) (A.cons v1 (A.cons (E.ty g_str z_str (by decide +kernel)) A.nil)))) (Ss.one (St.ret (E.and (E.callB call_isi cf_isi g_isinstance z_isinstance (by decide +kernel) (A.cons v0 (A.cons (E.ty g_str z_str (by decide +kernel)) A.nil))) (E.one (E.eq b.hu v0 v1))))) Ss.nil)
  (Ss.cons (St.ite (B.tru (E.callB call_isi cf_isi g_isinstance z_isinstance (by decide +kernel) (A.cons v1 (A.cons (E.ty g_tuple z_tuple (by decide +kernel)) A.nil)))) (Ss.one (St.ite (BW.t (BW.or (B.not (B.tru (E.callB call_isi cf_isi g_isinstance z_isinstance (by decide +kernel) (A.cons v0 (A.cons (E.ty g_tuple z_tuple (by decide +kernel)) A.nil))))) (BW.or1 (B.ne b.hu (E.callB cr_len cf_len g_len z_len (by decide +kernel) (A.cons v0 A.nil)) (E.callB cr_len cf_len g_len z_len (by decide +kernel) (A.cons v1 A.nil)))))) (Ss.one (St.ret E.bl)) Ss.nil)) (Ss.one (St.ite (BW.t (BW.or (B.not (B.tru (E.callB call_isi cf_isi g_isinstance z_isinstance (by decide +kernel) (A.cons v0 (A.cons (E.ty g_list z_list (by decide +kernel)) A.nil))))) (BW.or1 (B.ne b.hu (E.callB cr_len cf_len g_len z_len (by decide +kernel) (A.cons v0 A.nil)) (E.callB cr_len cf_len g_len z_len (by decide +kernel) (A.cons v1 A.nil)))))) (Ss.one (St.ret E.bl)) Ss.nil)))
  (Ss.cons (St.for b.po b.calm (I.r1 g_range z_range (A.cons (E.callB cr_len cf_len g_len z_len (by decide +kernel) (A.cons v1 A.nil)) A.nil)) t2 (Ss.one (St.ite (B.not (B.tru (E.call c_law_like b.room b.tk g_law_like (A.cons (E.ix v0 v2) (A.cons (E.ix v1 v2) A.nil)) (hk := by omega)))) (Ss.one (St.ret E.bl)) Ss.nil)))
  (Ss.one (St.ret E.bl))))))))
theorem d_law_like {P : Program} {w : World} {K : PySem.W.Frag} {mg : Str → Option Value} {base : Heap} (F : DefAt K mg "_law_like" (topS 22) ["_law_actual", "_law_due"]) (z_bool : mg "bool" = none) (z_isinstance : mg "isinstance" = none) (z_int : mg "int" = none) (z_str : mg "str" = none) (z_tuple : mg "tuple" = none) (z_len : mg "len" = none) (z_list : mg "list" = none) (z_range : mg "range" = none) : ∀ n, Cal P w K mg base (0 + n) "_law_like" (spP ⟨K, mg⟩ (f_law_like n))
  | 0 => F.badP (f_law_like 0) (fun _ => rfl)
  | n + 1 => b_law_like n F z_bool z_isinstance z_int z_str z_tuple z_len z_list z_range (d_law_like F z_bool z_isinstance z_int z_str z_tuple z_len z_list z_range n)

theorem sc_law_number : FnScope ["_law_data", "_law_at", "_law_number_here", "_law_factor"] ["_law_data", "_law_at"] (defScope (topS 23)) := ⟨rfl, rfl, rfl, by decide +kernel, rfl, by decide +kernel, by decide +kernel⟩
theorem d_law_number {P : Program} {w : World} {K : PySem.W.Frag} {mg : Str → Option Value} {base : Heap} (F : DefAt K mg "_law_number" (topS 23) ["_law_data", "_law_at"]) (z_len : mg "len" = none) : Cal P w K mg base 1 "_law_number" (spP ⟨K, mg⟩ f_law_number) := by
  obtain ⟨f, fd, F, hm, hb⟩ := F
  refine Cal.mkP F hm sc_law_number hb rfl rfl fun X W e1 e2 e3 e4 e5 b => ?_
  subst e1 e2 e3 e4 e5
  have nd := sc_law_number.nd
  have g_len := b.gl "len" (by decide +kernel)
  have v0 := fun {pos : Pos} => b.v (pos := pos) 0 "_law_data" (by decide +kernel)
  have v1 := fun {pos : Pos} => b.v (pos := pos) 1 "_law_at" (by decide +kernel)
  have v2 := fun {pos : Pos} => b.v (pos := pos) 2 "_law_number_here" (by decide +kernel)
  have v3 := fun {pos : Pos} => b.v (pos := pos) 3 "_law_factor" (by decide +kernel)
  exact (Ss.cons (b.set nd 2 "_law_number_here" (by decide +kernel) E.int)
  (Ss.cons (b.set nd 3 "_law_factor" (by decide +kernel) E.int)
  (Ss.cons (St.whl b.po (BW.t (BW.and (B.lt v1 (E.callB cr_len cf_len g_len z_len (by decide +kernel) (A.cons v0 A.nil))) (BW.and1 (B.chain op_le op_le opf_B0 opf_B0 E.int (E.ix v0 v1) E.int)))) (Ss.cons (b.set nd 2 "_law_number_here" (by decide +kernel) (E.add false v2 (E.mul false (E.sub (E.ix v0 v1) E.int) v3)))
  (Ss.cons (b.set nd 3 "_law_factor" (by decide +kernel) (E.mul false v3 E.int))
  (Ss.one (b.set nd 1 "_law_at" (by decide +kernel) (E.add false v1 E.int))))))
  (Ss.cons (St.ite (BW.t (BW.or (B.ge v1 (E.callB cr_len cf_len g_len z_len (by decide +kernel) (A.cons v0 A.nil))) (BW.or (B.not (B.chain op_le op_le opf_B0 opf_B0 E.int (E.ix v0 v1) E.int)) (BW.or1 (BW.t (BW.and (B.eq b.hu (E.ix v0 v1) E.int) (BW.and1 (B.gt v3 E.int)))))))) (Ss.one (St.ret (E.lst false (A.cons (E.neg un_neg E.int) (A.cons v1 A.nil))))) Ss.nil)
  (Ss.one (St.ret (E.lst false (A.cons (E.add false v2 (E.mul false (E.ix v0 v1) v3)) (A.cons (E.add false v1 E.int) A.nil)))))))))

theorem sc_law_wrong : FnScope ["_law_data", "_law_at", "_law_line", "_law_total", "_law_first", "_law_many", "_law_step", "_law_change"] ["_law_data"] (defScope (topS 24)) := ⟨rfl, rfl, rfl, by decide +kernel, rfl, by decide +kernel, by decide +kernel⟩
theorem d_law_wrong {P : Program} {w : World} {K : PySem.W.Frag} {mg : Str → Option Value} {base : Heap} (F : DefAt K mg "_law_wrong" (topS 24) ["_law_data"]) (c_law_number : Cal P w K mg base 1 "_law_number" (spP ⟨K, mg⟩ f_law_number)) (z_len : mg "len" = none) (z_int : mg "int" = none) : Cal P w K mg base 2 "_law_wrong" (spP ⟨K, mg⟩ f_law_wrong) := by
  obtain ⟨f, fd, F, hm, hb⟩ := F
  refine Cal.mkP F hm sc_law_wrong hb rfl rfl fun X W e1 e2 e3 e4 e5 b => ?_
  subst e1 e2 e3 e4 e5
  have nd := sc_law_wrong.nd
  have g_len := b.gl "len" (by decide +kernel)
  have g_law_number := b.gl "_law_number" (by decide +kernel)
  have g_int := b.gl "int" (by decide +kernel)
  have v1 := fun {pos : Pos} => b.v (pos := pos) 1 "_law_at" (by decide +kernel)
  have v0 := fun {pos : Pos} => b.v (pos := pos) 0 "_law_data" (by decide +kernel)
  have v5 := fun {pos : Pos} => b.v (pos := pos) 5 "_law_many" (by decide +kernel)
  have v3 := fun {pos : Pos} => b.v (pos := pos) 3 "_law_total" (by decide +kernel)
  have v6 := fun {pos : Pos} => b.v (pos := pos) 6 "_law_step" (by decide +kernel)
  have v2 := fun {pos : Pos} => b.v (pos := pos) 2 "_law_line" (by decide +kernel)
  have v7 := fun {pos : Pos} => b.v (pos := pos) 7 "_law_change" (by decide +kernel)
  have v4 := fun {pos : Pos} => b.v (pos := pos) 4 "_law_first" (by decide +kernel)
  exact (Ss.cons (b.set nd 1 "_law_at" (by decide +kernel) E.int)
  (Ss.cons (b.set nd 2 "_law_line" (by decide +kernel) E.int)
  (Ss.cons (b.set nd 3 "_law_total" (by decide +kernel) E.int)
  (Ss.cons (b.set nd 4 "_law_first" (by decide +kernel) E.bl)
  (Ss.cons (St.whl b.po (B.lt v1 (E.callB cr_len cf_len g_len z_len (by decide +kernel) (A.cons v0 A.nil))) (Ss.cons (St.asg (E.call c_law_number b.room b.tk g_law_number (A.cons v0 (A.cons v1 A.nil))) (Tg.un b.calm (gns_cons (b.pg nd 5 "_law_many" (by decide +kernel)) (gns_cons (b.pg nd 1 "_law_at" (by decide +kernel)) gns_nil))))
  (Ss.cons (St.ite (B.lt v5 E.int) (Ss.one (St.ret v1)) Ss.nil)
  (Ss.cons (b.set nd 3 "_law_total" (by decide +kernel) (E.add false (E.add false v3 v5) E.int))
  (Ss.cons (St.ite (B.gt v3 E.int) (Ss.one (St.ret (E.sub v1 E.int))) Ss.nil)
  (Ss.cons (St.asg (E.call c_law_number b.room b.tk g_law_number (A.cons v0 (A.cons v1 A.nil))) (Tg.un b.calm (gns_cons (b.pg nd 6 "_law_step" (by decide +kernel)) (gns_cons (b.pg nd 1 "_law_at" (by decide +kernel)) gns_nil))))
  (Ss.cons (St.ite (B.lt v6 E.int) (Ss.one (St.ret v1)) Ss.nil)
  (Ss.cons (b.set nd 7 "_law_change" (by decide +kernel) (E.fdiv v6 E.int))
  (Ss.cons (St.ite (B.eq b.hu (E.mod (E.callTy call_int1 cf_int1 g_int z_int (by decide +kernel) (A.cons v6 A.nil)) E.int) E.int) (Ss.one (b.set nd 7 "_law_change" (by decide +kernel) (E.sub (E.neg un_neg (E.fdiv v6 E.int)) E.int))) Ss.nil)
  (Ss.cons (b.set nd 2 "_law_line" (by decide +kernel) (E.add false v2 v7))
  (Ss.cons (St.ite (BW.t (BW.or (B.not (B.chain op_le op_le opf_B0 opf_B0 E.int v2 (E.pow E.int E.int))) (BW.or1 (BW.t (BW.and (B.eq b.hu v7 E.int) (BW.and1 (B.not (B.tru v4)))))))) (Ss.one (St.ret (E.sub v1 E.int))) Ss.nil)
  (Ss.one (b.set nd 4 "_law_first" (by decide +kernel) E.bl)))))))))))))
  (Ss.one (St.ret (E.neg un_neg E.int))))))))

theorem sc_law : FnScope ["_law_script", "_law_draws", "_law_lines", "_law_k", "_law_data", "_law_due", "_law_told", "_law_single", "_law_line", "_law_menu", "_law_at", "_law_odd", "_law_way", "_law_ways", "e", "_law_j"] ["_law_script"] (defScope (topS 25)) := ⟨rfl, rfl, rfl, by decide +kernel, rfl, by decide +kernel, by decide +kernel⟩
theorem d_law {P : Program} {w : World} {K : PySem.W.Frag} {mg : Str → Option Value} {base : Heap} {f : Addr} {fd : FuncData} (F : FunD K "law" "law" (defArgs (topS 25)) (defBody (topS 25)) (defScope (topS 25)) [] [] f fd) (c_law_begin : Cal P w K mg base 1 "_law_begin" (spW ⟨K, mg⟩ f_law_begin)) (c_pack_lines : Cal P w K mg base 2 "pack_lines" (spP ⟨K, mg⟩ f_pack_lines)) (c_law_wrong : Cal P w K mg base 2 "_law_wrong" (spP ⟨K, mg⟩ f_law_wrong)) (c_law_draw : Cal P w K mg base 1 "_law_draw" (spW ⟨K, mg⟩ f_law_draw)) (c_law_like : Cal P w K mg base 10 "_law_like" (spP ⟨K, mg⟩ (f_law_like 10))) (c_unpack_lines : Cal P w K mg base 5 "unpack_lines" (spP ⟨K, mg⟩ f_unpack_lines)) (c_line_at : Cal P w K mg base 5 "line_at" (spP ⟨K, mg⟩ f_line_at)) (z_range : mg "range" = none) (z_len : mg "len" = none) (m_BadData : ExmT K mg "BadData" [("TableError", false), ("BadIndex", false), ("BadData", true)]) (w_BadData_index : XfX K mg "BadData" "index") (m_BadIndex : ExmT K mg "BadIndex" [("TableError", false), ("BadIndex", true), ("BadData", false)]) : FnOk P w K mg base (L2.CX P w) 12 f fd ["_law_script"] (spP ⟨K, mg⟩ f_law) := by
  refine fnP F sc_law rfl rfl fun X W e1 e2 e3 e4 e5 b => ?_
  subst e1 e2 e3 e4 e5
  have nd := sc_law.nd
  have g_law_begin := b.gl "_law_begin" (by decide +kernel)
  have g_law_draw := b.gl "_law_draw" (by decide +kernel)
  have g_range := b.gl "range" (by decide +kernel)
  have g_pack_lines := b.gl "pack_lines" (by decide +kernel)
  have g_len := b.gl "len" (by decide +kernel)
  have g_law_wrong := b.gl "_law_wrong" (by decide +kernel)
  have g_unpack_lines := b.gl "unpack_lines" (by decide +kernel)
  have g_BadData := b.gl "BadData" (by decide +kernel)
  have g_line_at := b.gl "line_at" (by decide +kernel)
  have g_BadIndex := b.gl "BadIndex" (by decide +kernel)
  have g_law_like := b.gl "_law_like" (by decide +kernel)
  have v0 := fun {pos : Pos} => b.v (pos := pos) 0 "_law_script" (by decide +kernel)
  have v1 := fun {pos : Pos} => b.v (pos := pos) 1 "_law_draws" (by decide +kernel)
  have v2 := fun {pos : Pos} => b.v (pos := pos) 2 "_law_lines" (by decide +kernel)
  have v9 := fun {pos : Pos} => b.v (pos := pos) 9 "_law_menu" (by decide +kernel)
  have v4 := fun {pos : Pos} => b.v (pos := pos) 4 "_law_data" (by decide +kernel)
  have v10 := fun {pos : Pos} => b.v (pos := pos) 10 "_law_at" (by decide +kernel)
  have v11 := fun {pos : Pos} => b.v (pos := pos) 11 "_law_odd" (by decide +kernel)
  have v13 := fun {pos : Pos} => b.v (pos := pos) 13 "_law_ways" (by decide +kernel)
  have v12 := fun {pos : Pos} => b.v (pos := pos) 12 "_law_way" (by decide +kernel)
  have v5 := fun {pos : Pos} => b.v (pos := pos) 5 "_law_due" (by decide +kernel)
  have v7 := fun {pos : Pos} => b.v (pos := pos) 7 "_law_single" (by decide +kernel)
  have v6 := fun {pos : Pos} => b.v (pos := pos) 6 "_law_told" (by decide +kernel)
  have t3 := fun {pos : Pos} => b.t (pos := pos) nd 3 "_law_k" (by decide +kernel)
  exact (Ss.cons (b.set nd 1 "_law_draws" (by decide +kernel) (E.callW c_law_begin b.room b.tk g_law_begin (A.cons v0 A.nil)))
  (Ss.cons (b.set nd 2 "_law_lines" (by decide +kernel) (E.lst false A.nil))
  (Ss.cons (St.for b.po b.calm (I.r1 g_range z_range (A.cons (E.callW c_law_draw b.room b.tk g_law_draw (A.cons v1 (A.cons E.int A.nil))) A.nil)) t3 (Ss.cons (b.set nd 8 "_law_line" (by decide +kernel) (E.ix (E.lst false (A.cons E.int (A.cons E.int (A.cons E.int (A.cons E.int (A.cons E.int (A.cons (E.pow E.int E.int) (A.cons (E.callW c_law_draw b.room b.tk g_law_draw (A.cons v1 (A.cons (E.pow E.int E.int) A.nil))) A.nil)))))))) (E.callW c_law_draw b.room b.tk g_law_draw (A.cons v1 (A.cons E.int A.nil)))))
  (Ss.one (b.set nd 2 "_law_lines" (by decide +kernel) (E.add false v2 (E.lc (own := [("_law_j", 15)]) false b.calm (b.hN ▸ nd) (I.r1 g_range z_range (A.cons (E.ix (E.lst false (A.cons E.int (A.cons E.int (A.cons E.int A.nil)))) (E.callW c_law_draw b.room b.tk g_law_draw (A.cons v1 (A.cons E.int A.nil)))) A.nil)) (b.blk (by decide +kernel)) (CG.name (by decide)) (fun _ _ _ _ _ => blk_pg b.hN b.sc nd 15 "_law_j" (by decide +kernel)) (fun _ _ _ _ _ => Ts.nil) (fun _ _ _ _ _ => (b.bv 8 "_law_line" (by decide +kernel)))))))))
  (Ss.cons (b.set nd 4 "_law_data" (by decide +kernel) (E.call c_pack_lines b.room b.tk g_pack_lines (A.cons v2 A.nil)))
  (Ss.cons (St.ite (B.eq b.hu (E.callW c_law_draw b.room b.tk g_law_draw (A.cons v1 (A.cons E.int A.nil))) E.int) (Ss.cons (b.set nd 9 "_law_menu" (by decide +kernel) (E.lst false (A.cons E.int (A.cons E.int (A.cons E.int (A.cons E.int (A.cons E.int (A.cons E.int (A.cons E.int (A.cons (E.callW c_law_draw b.room b.tk g_law_draw (A.cons v1 (A.cons E.int A.nil))) A.nil))))))))))
  (Ss.one (Body.setLc (own := [("_law_k", 3)]) false b nd 4 "_law_data" (by decide +kernel) (I.r1 g_range z_range (A.cons (E.callW c_law_draw b.room b.tk g_law_draw (A.cons v1 (A.cons E.int A.nil))) A.nil)) (by decide +kernel) (CG.name (by decide)) (fun _ _ _ _ _ => blk_pg b.hN b.sc nd 3 "_law_k" (by decide +kernel)) (fun _ _ _ _ _ => Ts.nil) (fun _ _ _ _ _ => (E.ix (b.bv 9 "_law_menu" (by decide +kernel)) (E.callW c_law_draw b.room takes0 (b.bgl "_law_draw" (by decide +kernel)) (A.cons (b.bv 1 "_law_draws" (by decide +kernel)) (A.cons E.int A.nil)))))))) Ss.nil)
  (Ss.cons (St.ite (B.eq b.hu (E.callW c_law_draw b.room b.tk g_law_draw (A.cons v1 (A.cons E.int A.nil))) E.int) (Ss.cons (b.set nd 9 "_law_menu" (by decide +kernel) (E.lst false (A.cons (E.lst false (A.cons E.int (A.cons E.int (A.cons E.int A.nil)))) (A.cons (E.lst false (A.cons E.int (A.cons E.int (A.cons E.int A.nil)))) (A.cons (E.lst false (A.cons E.int (A.cons E.int (A.cons E.int (A.cons E.int (A.cons E.int A.nil)))))) (A.cons (E.lst false (A.cons E.int (A.cons E.int (A.cons E.int (A.cons E.int (A.cons E.int A.nil)))))) (A.cons (E.lst false (A.cons E.int (A.cons E.int (A.cons E.int (A.cons E.int (A.cons E.int A.nil)))))) A.nil)))))))
  (Ss.one (b.set nd 4 "_law_data" (by decide +kernel) (E.ix v9 (E.callW c_law_draw b.room b.tk g_law_draw (A.cons v1 (A.cons E.int A.nil))))))) Ss.nil)
  (Ss.cons (St.for b.po b.calm (I.r1 g_range z_range (A.cons (E.callW c_law_draw b.room b.tk g_law_draw (A.cons v1 (A.cons E.int A.nil))) A.nil)) t3 (Ss.cons (b.set nd 10 "_law_at" (by decide +kernel) (E.callW c_law_draw b.room b.tk g_law_draw (A.cons v1 (A.cons (E.add false (E.callB cr_len cf_len g_len z_len (by decide +kernel) (A.cons v4 A.nil)) E.int) A.nil))))
  (Ss.cons (b.set nd 11 "_law_odd" (by decide +kernel) (E.ix (E.lst false (A.cons E.int (A.cons E.int (A.cons E.int (A.cons E.int (A.cons E.int (A.cons E.int (A.cons (E.neg un_neg E.int) (A.cons (E.pow E.int E.int) A.nil))))))))) (E.callW c_law_draw b.room b.tk g_law_draw (A.cons v1 (A.cons E.int A.nil)))))
  (Ss.cons (b.set nd 12 "_law_way" (by decide +kernel) (E.callW c_law_draw b.room b.tk g_law_draw (A.cons v1 (A.cons E.int A.nil))))
  (Ss.cons (b.set nd 13 "_law_ways" (by decide +kernel) (E.lst false (A.cons (E.add false (E.add false (E.sl false v4 Po.none (Po.some v10)) (E.lst false (A.cons v11 A.nil))) (E.sl false v4 (Po.some v10) Po.none)) (A.cons (E.add false (E.add false (E.sl false v4 Po.none (Po.some v10)) (E.lst false (A.cons v11 A.nil))) (E.sl false v4 (Po.some (E.add false v10 E.int)) Po.none)) (A.cons (E.add false (E.sl false v4 Po.none (Po.some v10)) (E.sl false v4 (Po.some (E.add false v10 E.int)) Po.none)) (A.cons (E.sl false v4 Po.none (Po.some v10)) A.nil))))))
  (Ss.one (b.set nd 4 "_law_data" (by decide +kernel) (E.ix v13 v12))))))))
  (Ss.cons (b.set nd 5 "_law_due" (by decide +kernel) (E.call c_law_wrong b.room b.tk g_law_wrong (A.cons v4 A.nil)))
  (Ss.cons (b.set nd 6 "_law_told" (by decide +kernel) (E.lst false A.nil))
  (Ss.cons (b.set nd 7 "_law_single" (by decide +kernel) E.non)
  (Ss.cons (b.tryX (fun W pn xe b => by
  have nd := sc_law.nd
  have g_law_begin := b.gl "_law_begin" (by decide +kernel)
  have g_law_draw := b.gl "_law_draw" (by decide +kernel)
  have g_range := b.gl "range" (by decide +kernel)
  have g_pack_lines := b.gl "pack_lines" (by decide +kernel)
  have g_len := b.gl "len" (by decide +kernel)
  have g_law_wrong := b.gl "_law_wrong" (by decide +kernel)
  have g_unpack_lines := b.gl "unpack_lines" (by decide +kernel)
  have g_BadData := b.gl "BadData" (by decide +kernel)
  have g_line_at := b.gl "line_at" (by decide +kernel)
  have g_BadIndex := b.gl "BadIndex" (by decide +kernel)
  have g_law_like := b.gl "_law_like" (by decide +kernel)
  have v0 := fun {pos : Pos} => b.v (pos := pos) 0 "_law_script" (by decide +kernel)
  have v1 := fun {pos : Pos} => b.v (pos := pos) 1 "_law_draws" (by decide +kernel)
  have v2 := fun {pos : Pos} => b.v (pos := pos) 2 "_law_lines" (by decide +kernel)
  have v9 := fun {pos : Pos} => b.v (pos := pos) 9 "_law_menu" (by decide +kernel)
  have v4 := fun {pos : Pos} => b.v (pos := pos) 4 "_law_data" (by decide +kernel)
  have v10 := fun {pos : Pos} => b.v (pos := pos) 10 "_law_at" (by decide +kernel)
  have v11 := fun {pos : Pos} => b.v (pos := pos) 11 "_law_odd" (by decide +kernel)
  have v13 := fun {pos : Pos} => b.v (pos := pos) 13 "_law_ways" (by decide +kernel)
  have v12 := fun {pos : Pos} => b.v (pos := pos) 12 "_law_way" (by decide +kernel)
  have v5 := fun {pos : Pos} => b.v (pos := pos) 5 "_law_due" (by decide +kernel)
  have v7 := fun {pos : Pos} => b.v (pos := pos) 7 "_law_single" (by decide +kernel)
  have v6 := fun {pos : Pos} => b.v (pos := pos) 6 "_law_told" (by decide +kernel)
  have t3 := fun {pos : Pos} => b.t (pos := pos) nd 3 "_law_k" (by decide +kernel)
  exact (Ss.one (b.set nd 6 "_law_told" (by decide +kernel) (E.lst false (A.cons E.str (A.cons (E.call c_unpack_lines b.room b.tk g_unpack_lines (A.cons v4 A.nil)) A.nil)))))) (b.named nd 14 "e" (by decide +kernel) g_BadData (by decide) m_BadData.1 m_BadData.2 (b.suSetX nd 6 "_law_told" (by decide +kernel) (VE.lst (VA.cons VE.str (VA.cons (b.fld (i := 14) w_BadData_index (by decide +kernel)) VA.nil)))) HdX.nil))
  (Ss.cons (b.tryX (fun W pn xe b => by
  have nd := sc_law.nd
  have g_law_begin := b.gl "_law_begin" (by decide +kernel)
  have g_law_draw := b.gl "_law_draw" (by decide +kernel)
  have g_range := b.gl "range" (by decide +kernel)
  have g_pack_lines := b.gl "pack_lines" (by decide +kernel)
  have g_len := b.gl "len" (by decide +kernel)
  have g_law_wrong := b.gl "_law_wrong" (by decide +kernel)
  have g_unpack_lines := b.gl "unpack_lines" (by decide +kernel)
  have g_BadData := b.gl "BadData" (by decide +kernel)
  have g_line_at := b.gl "line_at" (by decide +kernel)
  have g_BadIndex := b.gl "BadIndex" (by decide +kernel)
  have g_law_like := b.gl "_law_like" (by decide +kernel)
  have v0 := fun {pos : Pos} => b.v (pos := pos) 0 "_law_script" (by decide +kernel)
  have v1 := fun {pos : Pos} => b.v (pos := pos) 1 "_law_draws" (by decide +kernel)
  have v2 := fun {pos : Pos} => b.v (pos := pos) 2 "_law_lines" (by decide +kernel)
  have v9 := fun {pos : Pos} => b.v (pos := pos) 9 "_law_menu" (by decide +kernel)
  have v4 := fun {pos : Pos} => b.v (pos := pos) 4 "_law_data" (by decide +kernel)
  have v10 := fun {pos : Pos} => b.v (pos := pos) 10 "_law_at" (by decide +kernel)
  have v11 := fun {pos : Pos} => b.v (pos := pos) 11 "_law_odd" (by decide +kernel)
  have v13 := fun {pos : Pos} => b.v (pos := pos) 13 "_law_ways" (by decide +kernel)
  have v12 := fun {pos : Pos} => b.v (pos := pos) 12 "_law_way" (by decide +kernel)
  have v5 := fun {pos : Pos} => b.v (pos := pos) 5 "_law_due" (by decide +kernel)
  have v7 := fun {pos : Pos} => b.v (pos := pos) 7 "_law_single" (by decide +kernel)
  have v6 := fun {pos : Pos} => b.v (pos := pos) 6 "_law_told" (by decide +kernel)
  have t3 := fun {pos : Pos} => b.t (pos := pos) nd 3 "_law_k" (by decide +kernel)
  exact (Ss.one (b.set nd 7 "_law_single" (by decide +kernel) (E.lst false (A.cons E.str (A.cons (E.call c_line_at b.room b.tk g_line_at (A.cons v4 (A.cons (E.neg un_neg E.int) A.nil))) A.nil)))))) (b.named nd 14 "e" (by decide +kernel) g_BadData (by decide) m_BadData.1 m_BadData.2 (b.suSetX nd 7 "_law_single" (by decide +kernel) (VE.lst (VA.cons VE.str (VA.cons (b.fld (i := 14) w_BadData_index (by decide +kernel)) VA.nil)))) (HdX.plain g_BadIndex (by decide) m_BadIndex.1 m_BadIndex.2 (fun a oe pn => Ss.one (b.suSet nd 7 "_law_single" (by decide +kernel) (E.lst false (A.cons E.str (A.cons (E.neg un_neg E.int) A.nil))))) HdX.nil)))
  (Ss.cons (St.ite (B.ge v5 E.int) (Ss.one (St.ret (E.and (E.eq b.hu v6 (E.lst false (A.cons E.str (A.cons v5 A.nil)))) (E.one (E.eq b.hu v7 (E.lst false (A.cons E.str (A.cons v5 A.nil)))))))) Ss.nil)
  (Ss.one (St.ret (E.and (E.eq b.hu (E.ix v6 E.int) E.str) (E.and (E.eq b.hu v7 (E.lst false (A.cons E.str (A.cons (E.neg un_neg E.int) A.nil)))) (E.one (E.call c_law_like b.room b.tk g_law_like (A.cons (E.call c_pack_lines b.room b.tk g_pack_lines (A.cons (E.ix v6 E.int) A.nil)) (A.cons v4 A.nil)))))))))))))))))))))
end Law

/-! Stretches, plain. -/
namespace Law
/-- the list that stretches stand for -/
def xp : List (Int × Nat) → List Int
  | [] => []
  | (a, m) :: r => List.replicate m a ++ xp r
def hdL (r : List (Int × Nat)) : Option Int := r.head?.map (·.1)
def lsL (r : List (Int × Nat)) : Option Int := r.getLast?.map (·.1)
/-- no stretch empty, neighbours differ -/
def Alt : List (Int × Nat) → Prop
  | [] => True
  | (a, m) :: r => 1 ≤ m ∧ hdL r ≠ some a ∧ Alt r
theorem xp_app : ∀ s t : List (Int × Nat), xp (s ++ t) = xp s ++ xp t
  | [], _ => rfl
  | (a, m) :: s, t => by simp [xp, xp_app s t]
theorem xp_head : ∀ {r : List (Int × Nat)}, Alt r → (xp r).head? = hdL r
  | [], _ => rfl
  | (a, m) :: r, h => by
    obtain ⟨h1, _, _⟩ := h
    obtain ⟨k, rfl⟩ : ∃ k, m = k + 1 := ⟨m - 1, by omega⟩
    simp [xp, hdL, List.replicate_succ]
theorem rep_uniq {a : Int} : ∀ {m n : Nat} {u v : List Int}, u.head? ≠ some a → v.head? ≠ some a → List.replicate m a ++ u = List.replicate n a ++ v → m = n ∧ u = v
  | 0, 0, u, v, _, _, e => ⟨rfl, by simpa using e⟩
  | 0, n + 1, u, v, hu, _, e => by
    rw [List.replicate_succ] at e
    simp only [List.replicate_zero, List.nil_append, List.cons_append] at e
    subst e; simp at hu
  | m + 1, 0, u, v, _, hv, e => by
    rw [List.replicate_succ] at e
    simp only [List.replicate_zero, List.nil_append, List.cons_append] at e
    subst e; simp at hv
  | m + 1, n + 1, u, v, hu, hv, e => by
    rw [List.replicate_succ, List.replicate_succ] at e
    simp only [List.cons_append, List.cons.injEq, true_and] at e
    obtain ⟨h1, h2⟩ := rep_uniq hu hv e
    exact ⟨by omega, h2⟩
theorem alt_uniq : ∀ {s t : List (Int × Nat)}, Alt s → Alt t → xp s = xp t → s = t
  | [], [], _, _, _ => rfl
  | [], (b, n) :: t, _, h, e => by
    have := xp_head h
    rw [← e] at this; simp [xp, hdL] at this
  | (a, m) :: s, [], h, _, e => by
    have := xp_head h
    rw [e] at this; simp [xp, hdL] at this
  | (a, m) :: s, (b, n) :: t, hs, ht, e => by
    have e1 := xp_head hs
    have e2 := xp_head ht
    rw [e, e2] at e1
    simp only [hdL, List.head?_cons, Option.map_some, Option.some.injEq] at e1
    subst e1
    obtain ⟨_, s2, s3⟩ := hs
    obtain ⟨_, t2, t3⟩ := ht
    obtain ⟨h1, h2⟩ := rep_uniq (by rw [xp_head s3]; exact s2) (by rw [xp_head t3]; exact t2) e
    subst h1
    rw [alt_uniq s3 t3 h2]
theorem alt_snoc : ∀ {s : List (Int × Nat)} {a : Int} {m : Nat}, Alt (s ++ [(a, m)]) ↔ Alt s ∧ 1 ≤ m ∧ lsL s ≠ some a
  | [], a, m => by simp [Alt, hdL, lsL]
  | [(b, n)], a, m => by
    simp only [List.cons_append, List.nil_append, Alt, hdL, lsL]
    simp
    intro _
    exact ⟨fun ⟨h1, h2⟩ => ⟨h2, fun h => h1 h.symm⟩, fun ⟨h1, h2⟩ => ⟨fun h => h2 h.symm, h1⟩⟩
  | (b, n) :: (c, k) :: r, a, m => by
    have ih := alt_snoc (s := (c, k) :: r) (a := a) (m := m)
    have e : hdL ((c, k) :: r ++ [(a, m)]) = hdL ((c, k) :: r) := rfl
    have e2 : lsL ((b, n) :: (c, k) :: r) = lsL ((c, k) :: r) := by simp [lsL]
    show 1 ≤ n ∧ hdL ((c, k) :: r ++ [(a, m)]) ≠ some b ∧ Alt ((c, k) :: r ++ [(a, m)]) ↔ (1 ≤ n ∧ hdL ((c, k) :: r) ≠ some b ∧ Alt ((c, k) :: r)) ∧ 1 ≤ m ∧ lsL ((b, n) :: (c, k) :: r) ≠ some a
    rw [e, e2, ih]
    constructor
    · rintro ⟨h1, h2, h3, h4, h5⟩; exact ⟨⟨h1, h2, h3⟩, h4, h5⟩
    · rintro ⟨⟨h1, h2, h3⟩, h4, h5⟩; exact ⟨h1, h2, h3, h4, h5⟩
/-- the bytes of a number -/
def pk (n : Nat) : List Int := if h : 128 ≤ n then ((n % 128 + 128 : Nat) : Int) :: pk (n / 128) else [(n : Int)]
theorem pk_ge {n : Nat} (h : 128 ≤ n) : pk n = ((n % 128 + 128 : Nat) : Int) :: pk (n / 128) := by rw [pk, dif_pos h]
theorem pk_lt {n : Nat} (h : ¬ 128 ≤ n) : pk n = [(n : Int)] := by rw [pk, dif_neg h]
def zz (i : Int) : Nat := if 0 ≤ i then (2 * i).toNat else (-2 * i - 1).toNat
/-- the bytes of stretches -/
def pkS : Int → List (Int × Nat) → List Int
  | _, [] => []
  | b, (a, m) :: r => pk (m - 1) ++ (pk (zz (a - b)) ++ pkS a r)
def lsD (b : Int) (s : List (Int × Nat)) : Int := (lsL s).getD b
theorem pkS_snoc : ∀ (b : Int) (s : List (Int × Nat)) (a : Int) (m : Nat), pkS b (s ++ [(a, m)]) = pkS b s ++ (pk (m - 1) ++ pk (zz (a - lsD b s)))
  | b, [], a, m => by simp [pkS, lsD, lsL]
  | b, (c, n) :: s, a, m => by
    have e : lsD b ((c, n) :: s) = lsD c s := by
      cases s with
      | nil => simp [lsD, lsL]
      | cons x y => simp [lsD, lsL]; cases h : (y.getLast?) <;> simp [List.getLast?_cons, h]
    rw [e]
    simp only [List.cons_append, pkS, pkS_snoc c s a m, List.append_assoc]
end Law

/-! Numbers read from bytes, plain. -/
namespace Law
inductive UR where
  | ok (n k : Nat) | bad (k : Nat)
/-- what is read: the number and how many bytes, or how many stand ahead of the wrong one -/
def un : Bool → List Int → UR
  | _, [] => .bad 0
  | f, c :: r => if 0 ≤ c ∧ c < 256 then (if c < 128 then (if c = 0 ∧ f = false then .bad 0 else .ok c.toNat 1) else match un false r with
    | .ok n k => .ok ((c - 128).toNat + 128 * n) (k + 1)
    | .bad k => .bad (k + 1)) else .bad 0
theorem un_pos : ∀ {f : Bool} {l : List Int} {n k : Nat}, un f l = .ok n k → 1 ≤ k ∧ k ≤ l.length
  | f, [], n, k, h => by simp [un] at h
  | f, c :: r, n, k, h => by
    rw [un] at h
    split at h
    · split at h
      · split at h
        · cases h
        · cases h; simp
      · split at h
        · rename_i e
          cases h
          have := un_pos e
          simp; omega
        · cases h
    · cases h
theorem un_bad : ∀ {f : Bool} {l : List Int} {k : Nat}, un f l = .bad k → k ≤ l.length
  | f, [], k, h => by simp [un] at h; omega
  | f, c :: r, k, h => by
    rw [un] at h
    split at h
    · split at h
      · split at h
        · cases h; simp
        · cases h
      · split at h
        · cases h
        · rename_i e
          cases h
          have := un_bad e
          simp; omega
    · cases h; simp
theorem pk_pos {n : Nat} : 1 ≤ (pk n).length := by rw [pk]; split <;> simp
/-- a packed number is read -/
theorem un_pk : ∀ (n : Nat) (f : Bool) (r : List Int), (f = true ∨ 0 < n) → un f (pk n ++ r) = .ok n (pk n).length := by
  intro n
  induction n using Nat.strongRecOn with
  | _ n ih =>
    intro f r h
    by_cases hn : 128 ≤ n
    · rw [pk_ge hn]
      simp only [List.cons_append, un]
      rw [if_pos (by omega), if_neg (by omega), ih (n / 128) (by omega) false r (Or.inr (by omega))]
      simp only [List.length_cons]
      congr 1
      omega
    · rw [pk_lt hn]
      simp only [List.cons_append, List.nil_append, un]
      rw [if_pos (by omega), if_pos (by omega), if_neg (by rcases h with rfl | h <;> simp <;> omega)]
      simp
/-- what is read is packed so -/
theorem pk_un : ∀ {f : Bool} {l : List Int} {n k : Nat}, un f l = .ok n k → l.take k = pk n ∧ (pk n).length = k ∧ (f = true ∨ 0 < n)
  | f, [], n, k, h => by simp [un] at h
  | f, c :: r, n, k, h => by
    rw [un] at h
    split at h
    · rename_i hc
      split at h
      · split at h
        · cases h
        · rename_i h1 h2
          cases h
          rw [pk_lt (by omega)]
          refine ⟨by simp; omega, rfl, ?_⟩
          cases f
          · right; have : c ≠ 0 := fun q => h2 ⟨q, rfl⟩
            omega
          · exact Or.inl rfl
      · split at h
        · rename_i m j e
          cases h
          obtain ⟨h1, h2, h3⟩ := pk_un e
          have h3 : 0 < m := by simpa using h3
          rw [pk_ge (by omega)]
          have e1 : ((c - 128).toNat + 128 * m) / 128 = m := by omega
          have e2 : (((c - 128).toNat + 128 * m) % 128 + 128 : Nat) = c := by omega
          rw [e1]
          refine ⟨?_, by simp [h2], Or.inr (by omega)⟩
          rw [List.take_succ_cons, h1]
          congr 1
          omega
        · cases h
    · cases h
end Law

/-! Stretches read, plain. -/
namespace Law
inductive SR where
  | ok (s : List (Int × Nat)) | bad (k : Nat)
def unz (n : Nat) : Int := if n % 2 = 1 then -((n / 2 : Nat) : Int) - 1 else ((n / 2 : Nat) : Int)
theorem zz_unz (n : Nat) : zz (unz n) = n := by
  unfold zz unz
  by_cases h : n % 2 = 1
  · rw [if_pos h, if_neg (by omega)]; omega
  · rw [if_neg h, if_pos (by omega)]; omega
theorem unz_zero {n : Nat} : unz n = 0 ↔ n = 0 := by
  unfold unz
  split <;> omega
def rs : Nat → List Int → Int → Nat → Bool → SR
  | 0, _, _, _, _ => .ok []
  | f + 1, l, line, tot, first => if l = [] then .ok [] else match un true l with
    | .bad k => .bad k
    | .ok m k => if 10000 < tot + m + 1 then .bad (k - 1) else match un true (l.drop k) with
      | .bad j => .bad (k + j)
      | .ok st j => if ¬ (0 ≤ line + unz st ∧ line + unz st ≤ 1000000) ∨ (first = false ∧ unz st = 0) then .bad (k + j - 1) else
        match rs f (l.drop (k + j)) (line + unz st) (tot + m + 1) false with
        | .ok s => .ok ((line + unz st, m + 1) :: s)
        | .bad i => .bad (k + j + i)
theorem rs_ok : ∀ {f : Nat} {l : List Int} {line : Int} {tot : Nat} {first : Bool} {s : List (Int × Nat)}, l.length ≤ f → rs f l line tot first = .ok s →
    pkS line s = l ∧ Alt s ∧ (∀ p ∈ s, 0 ≤ p.1 ∧ p.1 ≤ 1000000 ∧ 1 ≤ p.2 ∧ p.2 ≤ 10000) ∧ (first = false → hdL s ≠ some line) ∧ (tot ≤ 10000 → tot + (s.map (·.2)).sum ≤ 10000)
  | 0, l, line, tot, first, s, hl, h => by
    simp [rs] at h
    subst h
    have : l = [] := List.eq_nil_of_length_eq_zero (by omega)
    subst this
    exact ⟨rfl, trivial, by simp, by simp [hdL], by simp⟩
  | f + 1, l, line, tot, first, s, hl, h => by
    rw [rs] at h
    split at h
    · rename_i e
      cases h
      subst e
      exact ⟨rfl, trivial, by simp, by simp [hdL], by simp⟩
    · split at h
      · cases h
      · rename_i m k e1
        split at h
        · cases h
        · rename_i htot
          split at h
          · cases h
          · rename_i st j e2
            split at h
            · cases h
            · rename_i hc
              split at h
              · rename_i r e3
                cases h
                obtain ⟨p1, p2, _⟩ := pk_un e1
                have p3 := un_pos e1
                obtain ⟨q1, q2, _⟩ := pk_un e2
                have q3 := un_pos e2
                simp only [List.length_drop] at q3
                obtain ⟨i1, i2, i3, i4, i5⟩ := rs_ok (by simp; omega) e3
                have hb : 0 ≤ line + unz st ∧ line + unz st ≤ 1000000 := by
                  apply Classical.byContradiction
                  intro z
                  exact hc (Or.inl z)
                refine ⟨?_, ⟨by omega, i4 rfl, i2⟩, ?_, ?_, ?_⟩
                · have a1 : line + unz st - line = unz st := by omega
                  have a2 : l.drop k = (l.drop k).take j ++ l.drop (k + j) := by rw [← List.drop_drop, List.take_append_drop]
                  have a3 : l = l.take k ++ l.drop k := (List.take_append_drop k l).symm
                  simp only [pkS, Nat.add_sub_cancel, i1, a1, zz_unz]
                  rw [← p1, ← q1, ← a2, ← a3]
                · intro p hp
                  rcases List.mem_cons.mp hp with rfl | hp
                  · exact ⟨hb.1, hb.2, by simp, by simp; omega⟩
                  · exact i3 p hp
                · intro hf
                  simp only [hdL, List.head?_cons, Option.map_some, ne_eq, Option.some.injEq]
                  intro z
                  exact hc (Or.inr ⟨hf, by omega⟩)
                · intro ht
                  simp only [List.map_cons, List.sum_cons]
                  have := i5 (by omega)
                  omega
              · cases h
end Law

namespace Law
open PySem PySem.Spec PyProof.Rows L2 Pv
/-! Lists of ints. -/
abbrev LI (l : List Int) : PV := .con .own .lst (l.map PV.int)
theorem resP_own {S : Sto} {n : Nat} {l : List Int} (h : S[n]? = some (some (.lst, l.map PV.int))) : resP S (.ref n) = .ok (LI l) := resP_ref h (cleans_ints l)
theorem addLI (S : Sto) (a b : List Int) (h : a.length + b.length ≤ 16777216) : addF false (LI a) (LI b) S = some (LI (a ++ b), S) := by
  rw [addF_lst (by decide) (by decide) (by simpa using h)]; simp
theorem lendLI (S : Sto) (l : List Int) : lendV S (LI l) = some (LI l) := lend_clean (clean_ints (by decide) l)
theorem atI_nat {α : Type} {xs : List α} {i : Nat} : L2.atI xs (i : Int) = xs[i]? := by
  unfold L2.atI ixN
  rw [if_pos (by omega)]
  by_cases h : (i : Int) < xs.length
  · rw [if_pos (by omega)]; simp
  · rw [if_neg (by omega)]; simp; omega
theorem atLI {l : List Int} {i : Nat} : L2.atI (l.map PV.int) (i : Int) = l[i]?.map PV.int := by rw [atI_nat, List.getElem?_map]
end Law

namespace Law
open PySem PySem.Spec PyProof.Rows L2 Pv
theorem pk_len4 {n : Nat} (h : n < 16777216) : (pk n).length ≤ 4 := by
  by_cases h1 : 128 ≤ n
  · rw [pk_ge h1]
    by_cases h2 : 128 ≤ n / 128
    · rw [pk_ge h2]
      by_cases h3 : 128 ≤ n / 128 / 128
      · rw [pk_ge h3, pk_lt (show ¬ 128 ≤ n / 128 / 128 / 128 by omega)]; simp
      · rw [pk_lt h3]; simp
    · rw [pk_lt h2]; simp
  · rw [pk_lt h1]; simp
theorem packed_gen (n : Nat) (hn : (pk n).length < 16777216) : f_packed [.int n] = .ok (LI (pk n)) := by
  unfold f_packed
  rw [runP_eq (np := 1) rfl]
  have key := sWhl_ind (c := bE (eOp geF (eV 0) (eC (.int c_GROUP)))) (t := l0_packed)
    (fun m Γ S => ∃ (k : Nat) (acc : List Int) (x : Option PV), Γ = [some (.int k), some (.ref 0), x] ∧ S = [some (.lst, acc.map PV.int)] ∧ acc ++ pk k = pk n ∧ m = (pk k).length)
    (fun r => ∃ (k : Nat) (acc : List Int) (x : Option PV), r = .nx [some (.int k), some (.ref 0), x] [some (.lst, acc.map PV.int)] ∧ acc ++ [(k : Int)] = pk n)
    (by
      rintro m Γ S ⟨k, acc, x, rfl, rfl, e, rfl⟩
      have hlen : acc.length + (pk k).length < 16777216 := by rw [← List.length_append, e]; exact hn
      have hp := pk_pos (n := k)
      by_cases hk : 128 ≤ k
      · refine Or.inr ⟨[some (.lst, acc.map PV.int)], by simp [c_GROUP, show (128:Int) ≤ k from by omega], Or.inl ⟨(pk (k / 128)).length, [some (.int (k / 128 : Nat)), some (.ref 0), some (.int (k % 128 : Nat))], [some (.lst, (acc ++ [((k % 128 + 128 : Nat) : Int)]).map PV.int)], by rw [pk_ge hk]; simp, ?_, k / 128, _, _, rfl, rfl, ?_, rfl⟩⟩
        · simp [l0_packed, c_GROUP, CDiv, szl, show acc.length < 16777216 from by omega]
        · rw [pk_ge hk] at e; simpa using e
      · refine Or.inl ⟨[some (.lst, acc.map PV.int)], by simp [c_GROUP, show ¬ (128:Int) ≤ k from by omega], k, acc, x, rfl, ?_⟩
        rw [pk_lt hk] at e; exact e)
    (m := (pk n).length) (Γ := [some (.int n), some (.ref 0), none]) (S := [some (.lst, [])]) ⟨n, [], none, rfl, rfl, rfl, rfl⟩ (by omega)
  obtain ⟨k, acc, x, e, h1⟩ := key
  have h2 : acc.length < 16777216 := by rw [← h1] at hn; simp at hn; omega
  simp [body_packed, szl, e, r1_packed, h2]
  rw [resP_own (l := acc ++ [(k : Int)]) (by simp), h1]
theorem packed_ok (n : Nat) (hn : n < 16777216) : f_packed [.int n] = .ok (LI (pk n)) := packed_gen n (by have := pk_len4 hn; omega)
end Law

namespace Law
open PySem PySem.Spec PyProof.Rows L2 Pv
theorem law_packed_ok (n : Nat) (hn : n < 16777216) : f_law_packed [.int n] = .ok (LI (pk n)) := by
  unfold f_law_packed
  rw [runP_eq (np := 1) rfl]
  have key := sWhl_ind (c := bE (eOp geF (eV 2) (eC (.int 128)))) (t := l0_law_packed)
    (fun m Γ S => ∃ (k : Nat) (acc : List Int), Γ = [some (.int n), some (.ref 0), some (.int k)] ∧ S = [some (.lst, acc.map PV.int)] ∧ acc ++ pk k = pk n ∧ acc.length + k < 16777216 ∧ m = k)
    (fun r => ∃ (k : Nat) (acc : List Int), r = .nx [some (.int n), some (.ref 0), some (.int k)] [some (.lst, acc.map PV.int)] ∧ acc ++ [(k : Int)] = pk n ∧ acc.length < 16777216)
    (by
      rintro m Γ S ⟨k, acc, rfl, rfl, e, hl, rfl⟩
      by_cases hk : 128 ≤ m
      · refine Or.inr ⟨[some (.lst, acc.map PV.int)], by simp [show (128:Int) ≤ m from by omega], Or.inl ⟨m / 128, [some (.int n), some (.ref 0), some (.int (m / 128 : Nat))], [some (.lst, (acc ++ [((m % 128 + 128 : Nat) : Int)]).map PV.int)], by omega, ?_, m / 128, _, rfl, rfl, ?_, ?_, rfl⟩⟩
        · simp [l0_law_packed, CDiv, szl, show acc.length < 16777216 from by omega, Int.add_comm]
        · rw [pk_ge hk] at e; simpa using e
        · simp; omega
      · refine Or.inl ⟨[some (.lst, acc.map PV.int)], by simp [show ¬ (128:Int) ≤ m from by omega], m, acc, rfl, ?_, by omega⟩
        rw [pk_lt hk] at e; exact e)
    (m := n) (Γ := [some (.int n), some (.ref 0), some (.int n)]) (S := [some (.lst, [])]) ⟨n, [], rfl, rfl, rfl, by simpa using hn, rfl⟩ (by omega)
  obtain ⟨k, acc, e, h1, h2⟩ := key
  simp [body_law_packed, szl, e, r1_law_packed, h2]
  rw [resP_own (l := acc ++ [(k : Int)]) (by simp), h1]
end Law

namespace Law
open PySem PySem.Spec PyProof.Rows L2 Pv
def unR (i : Nat) : UR → RP
  | .ok n k => .ok (.con .own .tup [.int n, .int (i + k : Nat)])
  | .bad k => .ex "BadData" [("index", .int (i + k : Nat))]
theorem atI_dropL {data : List Int} {i : Nat} {c : Int} {r : List Int} (h : data.drop i = c :: r) : i < data.length ∧ L2.atI (data.map PV.int) (i : Int) = some (.int c) ∧ data.drop (i + 1) = r := by
  have hl : i < data.length := by
    apply Nat.lt_of_not_le
    intro q
    rw [List.drop_eq_nil_of_le q] at h; cases h
  rw [List.drop_eq_getElem_cons hl] at h
  simp only [List.cons.injEq] at h
  refine ⟨hl, ?_, h.2⟩
  rw [atI_nat, List.getElem?_map, List.getElem?_eq_getElem hl, h.1]; rfl
theorem unp_turn {data : List Int} {j : Nat} {c num fac : Int} {x : Option PV} (hl : j < data.length) (ha : L2.atI (data.map PV.int) (j : Int) = some (.int c)) (b2 : 0 ≤ c) (b1 : c < 256) (b0 : ¬ c < 128) :
    l4_unpacked [some (LI data), some (.int j), some (.int num), some (.int fac), x] [] = .nx [some (LI data), some (.int (j + 1)), some (.int (num + (c - 128) * fac)), some (.int (fac * 128)), some (.int c)] [] := by
  have m1 : CMul (c - 128) fac := Or.inl ⟨by omega, by omega⟩
  have m2 : CMul fac 128 := Or.inr ⟨by omega, by omega⟩
  have m3 : CMul 2 128 := Or.inr ⟨by omega, by omega⟩
  simp [l4_unpacked, r3_unpacked, r2_unpacked, szl, c_GROUP, m1, m2, m3, ha, b0, b1, b2, show ¬ data.length ≤ j from by omega]
theorem unp_end {data : List Int} {j : Nat} {c num fac : Int} {x : Option PV} (hl : j < data.length) (ha : L2.atI (data.map PV.int) (j : Int) = some (.int c)) (b2 : 0 ≤ c) (b0 : c < 128) (b5 : ¬ (c = 0 ∧ (1 : Int) < fac)) :
    l4_unpacked [some (LI data), some (.int j), some (.int num), some (.int fac), x] [] = .rt (.con .own .tup [.int (num + c * fac), .int (j + 1)]) [] := by
  have m1 : CMul c fac := Or.inl ⟨by omega, by omega⟩
  have m3 : CMul 2 128 := Or.inr ⟨by omega, by omega⟩
  by_cases c0 : c = 0
  · subst c0
    have : ¬ (1 : Int) < fac := fun q => b5 ⟨rfl, q⟩
    simp [l4_unpacked, r3_unpacked, i1_unpacked, r0_unpacked, szl, c_GROUP, m1, m3, ha, b0, show ¬ data.length ≤ j from by omega, this]
  · simp [l4_unpacked, r3_unpacked, i1_unpacked, r0_unpacked, szl, c_GROUP, m1, m3, ha, b0, b2, show c < 256 from by omega, show ¬ data.length ≤ j from by omega, c0]
theorem unp_zero {data : List Int} {j : Nat} {num fac : Int} {x : Option PV} (hl : j < data.length) (ha : L2.atI (data.map PV.int) (j : Int) = some (.int 0)) (b5 : (1 : Int) < fac) :
    l4_unpacked [some (LI data), some (.int j), some (.int num), some (.int fac), x] [] = .ex "BadData" [("index", .int j)] [some (LI data), some (.int (j + 1)), some (.int num), some (.int fac), some (.int 0)] [] := by
  have m3 : CMul 2 128 := Or.inr ⟨by omega, by omega⟩
  simp [l4_unpacked, r3_unpacked, i1_unpacked, r0_unpacked, szl, c_GROUP, m3, ha, show ¬ data.length ≤ j from by omega, b5]
theorem unp_out {data : List Int} {j : Nat} {num fac : Int} {x : Option PV} (hl : data.length ≤ j) :
    l4_unpacked [some (LI data), some (.int j), some (.int num), some (.int fac), x] [] = .ex "BadData" [("index", .int j)] [some (LI data), some (.int j), some (.int num), some (.int fac), x] [] := by
  simp [l4_unpacked, szl, c_GROUP, hl]
theorem unp_odd {data : List Int} {j : Nat} {c num fac : Int} {x : Option PV} (hl : j < data.length) (ha : L2.atI (data.map PV.int) (j : Int) = some (.int c)) (b : ¬ (0 ≤ c ∧ c < 256)) :
    l4_unpacked [some (LI data), some (.int j), some (.int num), some (.int fac), x] [] = .ex "BadData" [("index", .int j)] [some (LI data), some (.int j), some (.int num), some (.int fac), x] [] := by
  have m3 : CMul 2 128 := Or.inr ⟨by omega, by omega⟩
  by_cases c0 : 0 ≤ c
  · have : ¬ c < 256 := fun q => b ⟨c0, q⟩
    simp [l4_unpacked, szl, c_GROUP, m3, ha, show ¬ data.length ≤ j from by omega, c0, this]
  · simp [l4_unpacked, szl, c_GROUP, m3, ha, show ¬ data.length ≤ j from by omega, c0]
theorem unpacked_gen (data : List Int) (i : Nat) (hi : i ≤ data.length) (hz : data.length < 100000000) : f_unpacked [LI data, .int i] = unR i (un true (data.drop i)) := by
  unfold f_unpacked
  rw [runP_eq (np := 2) rfl]
  have key := sWhl_ind2 (c := bT (eC (.bl true))) (t := l4_unpacked)
    (fun m Γ S => ∃ (j num fac : Nat) (x : Option PV), Γ = [some (LI data), some (.int j), some (.int num), some (.int fac), x] ∧ S = [] ∧ j ≤ data.length ∧ m = data.length - j ∧ 1 ≤ fac ∧ i ≤ j ∧
      unR i (un true (data.drop i)) = (match un (decide (fac = 1)) (data.drop j) with | .ok n k => .ok (.con .own .tup [.int (num + fac * n : Nat), .int (j + k : Nat)]) | .bad k => .ex "BadData" [("index", .int (j + k : Nat))]))
    (fun r => rupK r = unR i (un true (data.drop i)))
    (by
      rintro m Γ S ⟨j, num, fac, x, rfl, rfl, hj, rfl, hf, hij, e⟩
      refine Or.inr ⟨[], by simp, ?_⟩
      cases hd : data.drop j with
      | nil =>
        have : data.length ≤ j := by simpa using hd
        rw [hd] at e
        rw [unp_out this]
        simp only [un] at e
        rw [Trn_ex, e]
        simp [cleans, clean]
      | cons c r =>
        obtain ⟨hl, ha, hr⟩ := atI_dropL hd
        rw [hd, un] at e
        by_cases hc : 0 ≤ c ∧ c < 256
        · rw [if_pos hc] at e
          by_cases h8 : c < 128
          · rw [if_pos h8] at e
            by_cases h0 : c = 0 ∧ decide (fac = 1) = false
            · rw [if_pos h0] at e
              obtain ⟨rfl, h1⟩ := h0
              rw [unp_zero hl ha (by simp at h1; omega), Trn_ex, e]
              simp [cleans, clean]
            · rw [if_neg h0] at e
              have : ¬ (c = 0 ∧ (1 : Int) < fac) := fun q => h0 ⟨q.1, by simp; omega⟩
              rw [unp_end hl ha hc.1 h8 this, Trn_rt, e]
              have e1 : ((num + fac * c.toNat : Nat) : Int) = num + c * fac := by
                have : (c.toNat : Int) = c := by omega
                push_cast
                rw [this, Int.mul_comm]
              dsimp only
              rw [e1, rupK_rt, resP_clean rfl]; simp
          · rw [if_neg h8] at e
            rw [unp_turn hl ha hc.1 hc.2 h8, Trn_nx]
            have e1 : ((num : Int) + (c - 128) * fac) = ((num + (c - 128).toNat * fac : Nat) : Int) := by
              have : ((c - 128).toNat : Int) = c - 128 := by omega
              push_cast
              rw [this]
            refine ⟨data.length - (j + 1), by omega, j + 1, num + (c - 128).toNat * fac, fac * 128, some (.int c), by rw [e1]; simp, rfl, hl, rfl, by omega, by omega, ?_⟩
            rw [e, hr, show decide (fac * 128 = 1) = false from by simp; omega]
            cases un false r with
            | ok n k =>
              simp only
              have a1 : num + fac * ((c - 128).toNat + 128 * n) = num + (c - 128).toNat * fac + fac * 128 * n := by
                rw [Nat.mul_add, Nat.mul_comm fac, ← Nat.mul_assoc, Nat.add_assoc]
              have a2 : j + (k + 1) = j + 1 + k := by omega
              rw [a1, a2]
            | bad k =>
              simp only
              rw [show j + (k + 1) = j + 1 + k by omega]
        · rw [if_neg hc] at e
          rw [unp_odd hl ha hc, Trn_ex, e]
          simp [cleans, clean])
    (m := data.length - i) (Γ := [some (LI data), some (.int i), some (.int 0), some (.int 1), none]) (S := []) ⟨i, 0, 1, none, rfl, rfl, hi, rfl, by omega, by omega, by
      unfold unR
      simp only [decide_true]
      cases un true (data.drop i) <;> simp⟩ (by omega)
  simp only [body_unpacked, sSeq_eq, sSet_eq, eC_eq, setK_ok, seqK_nx, List.length_cons, List.length_nil, List.map_cons, List.map_nil, List.replicate, List.cons_append, List.nil_append, List.set_cons_succ, List.set_cons_zero]
  exact key
theorem unpacked_ok {data rest : List Int} {i n : Nat} (hd : data.drop i = pk n ++ rest) (hz : data.length < 100000000) : f_unpacked [LI data, .int i] = .ok (.con .own .tup [.int n, .int (i + (pk n).length : Nat)]) ∧ data.drop (i + (pk n).length) = rest := by
  refine ⟨?_, by rw [← List.drop_drop, hd, List.drop_left]⟩
  have hi : i ≤ data.length := by
    apply Nat.le_of_not_lt
    intro q
    rw [List.drop_eq_nil_of_le (by omega)] at hd
    have := pk_pos (n := n)
    have : (pk n ++ rest).length = 0 := by rw [← hd]; rfl
    rw [List.length_append] at this; omega
  rw [unpacked_gen data i hi hz, hd, un_pk n true rest (Or.inl rfl)]; rfl
end Law

namespace Law
open PySem PySem.Spec PyProof.Rows L2 Pv
theorem folded_ok (i : Int) : f_folded [.int i] = .ok (.int (zz i)) := by
  unfold f_folded
  rw [runP_eq (np := 1) rfl]
  by_cases h : 0 ≤ i
  · simp [body_folded, h, CMul, zz]; omega
  · simp [body_folded, r0_folded, h, CMul, zz]; omega
theorem zigzag_ok (i : Int) : f_law_zigzag [.int i] = .ok (.int (zz i)) := by
  unfold f_law_zigzag
  rw [runP_eq (np := 1) rfl]
  by_cases h : 0 ≤ i
  · simp [body_law_zigzag, h, CMul, zz]; omega
  · simp [body_law_zigzag, r0_law_zigzag, h, CMul, zz]; omega
theorem unfolded_ok (i : Int) : f_unfolded [.int (zz i)] = .ok (.int i) := by
  unfold f_unfolded
  rw [runP_eq (np := 1) rfl]
  by_cases h : 0 ≤ i
  · have e : ((zz i : Nat) : Int) = 2 * i := by simp [zz, h]; omega
    have e1 : (2 * i) / 2 = i := by omega
    have e2 : (2 * i) % 2 = 0 := by omega
    rw [e]
    simp [body_unfolded, r0_unfolded, CDiv, e1, e2]
  · have e : ((zz i : Nat) : Int) = -2 * i - 1 := by simp [zz, h]; omega
    have e1 : (-2 * i - 1) / 2 = -i - 1 := by omega
    have e2 : (-2 * i - 1) % 2 = 1 := by omega
    rw [e]
    have e3 : -(-i - 1) - 1 = i := by omega
    simp [body_unfolded, r0_unfolded, CDiv, e1, e2, e3]
end Law

namespace Law
open PySem PySem.Spec PyProof.Rows L2 Pv
abbrev cell (a m : Int) : Option (Kd × List PV) := some (.lst, [.int a, .int m])
abbrev lcell (l : List PV) : Option (Kd × List PV) := some (.lst, l)
/-- the stretches as the program keeps them while it looks -/
def refsS (n : Nat) : List PV := (List.range n).map fun k => .ref (k + 1)
def stoS (s : List (Int × Nat)) : Sto := some (.lst, refsS s.length) :: s.map fun p => some (.lst, [.int p.1, .int p.2])
theorem refsS_succ (n : Nat) : refsS (n + 1) = refsS n ++ [.ref (n + 1)] := by simp [refsS, List.range_succ]
theorem refsS_len (n : Nat) : (refsS n).length = n := by simp [refsS]
theorem stoS_0 (s : List (Int × Nat)) : (stoS s)[0]? = some (some (.lst, refsS s.length)) := rfl
theorem stoS_last (s : List (Int × Nat)) (a : Int) (m : Nat) : (stoS (s ++ [(a, m)]))[s.length + 1]? = some (some (.lst, [.int a, .int m])) := by simp [stoS]
theorem stoS_len (s : List (Int × Nat)) : (stoS s).length = s.length + 1 := by simp [stoS]
theorem stoS_inc (s : List (Int × Nat)) (a : Int) (m : Nat) (v : PV) (hv : v = .int ((m : Int) + 1)) : (stoS (s ++ [(a, m)])).set (s.length + 1) (lcell [.int a, v]) = stoS (s ++ [(a, m + 1)]) := by
  subst hv
  simp [stoS]
theorem stoS_snoc (s : List (Int × Nat)) (a : Int) : (stoS s ++ [cell a 1]).set 0 (lcell (refsS s.length ++ [.ref (s.length + 1)])) = stoS (s ++ [(a, 1)]) := by
  simp [stoS, refsS_succ]
theorem atI_last {α : Type} (xs : List α) (x : α) : L2.atI (xs ++ [x]) (-1) = some x := by
  unfold L2.atI ixN
  have e : (-1 + ((xs.length : Int) + 1)).toNat = xs.length := by omega
  simp [e, show (1 : Int) ≤ xs.length + 1 from by omega]
theorem eV_2 {S : Sto} {o : Gam} {z z' : Option PV} : eV 2 (z :: z' :: o) S = eV 0 o S := rfl
theorem stretch_step0 {k : Kd} (l : List Int) (a : Int) (x : Option PV) :
    l0_stretches_of [some (.con .own k (l.map PV.int)), some (.ref 0), some (.int a)] (stoS []) = .nx [some (.con .own k (l.map PV.int)), some (.ref 0), some (.int a)] (stoS [(a, 1)]) := by
  simp [l0_stretches_of, stoS, refsS, szl]
theorem stretch_step {k : Kd} (l : List Int) (a b : Int) (m : Nat) (s : List (Int × Nat)) (hs : s.length < 100000) :
    l0_stretches_of [some (.con .own k (l.map PV.int)), some (.ref 0), some (.int a)] (stoS (s ++ [(b, m)])) = .nx [some (.con .own k (l.map PV.int)), some (.ref 0), some (.int a)] (stoS (if b = a then s ++ [(b, m + 1)] else s ++ [(b, m)] ++ [(a, 1)])) := by
  have h0 := stoS_0 (s ++ [(b, m)])
  have hl := stoS_last s b m
  have hlen := stoS_len (s ++ [(b, m)])
  generalize hS : stoS (s ++ [(b, m)]) = S at h0 hl hlen
  simp only [List.length_append, List.length_cons, List.length_nil, Nat.zero_add] at h0 hlen
  have hr : refsS (s.length + 1) = refsS s.length ++ [.ref (s.length + 1)] := refsS_succ _
  have hne : (refsS (s.length + 1)).isEmpty = false := by rw [hr]; simp
  have e1 : L2.atI (refsS (s.length + 1)) (-1) = some (.ref (s.length + 1)) := by rw [hr]; exact atI_last _ _
  have e2 : L2.atI ([.int b, .int m] : List PV) 0 = some (.int b) := rfl
  have e3 : L2.atI ([.int b, .int m] : List PV) 1 = some (.int m) := rfl
  have e4 : ixN 2 1 = some 1 := rfl
  by_cases h : b = a
  · subst h
    have inc := stoS_inc s b m _ rfl
    rw [hS] at inc
    simp [l0_stretches_of, h0, hne, e1, hl, e2]
    simp [sAugS, e1, h0, hl, e2, e3, ixLB, setLF, e4, inc]
  · have sn := stoS_snoc (s ++ [(b, m)]) a
    rw [hS] at sn
    simp only [List.length_append, List.length_cons, List.length_nil, Nat.zero_add] at sn
    have g0 : (S ++ [cell a 1])[0]? = some (some (.lst, refsS (s.length + 1))) := by rw [List.getElem?_append_left (by omega), h0]
    have hlt : (refsS (s.length + 1)).length < 16777216 := by rw [refsS_len]; omega
    have go : ∀ L, S.length = L → (S ++ [cell a 1]).set 0 (lcell (refsS (s.length + 1) ++ [PV.ref L])) = stoS (s ++ [(b, m)] ++ [(a, 1)]) := fun L q => by rw [← q, hlen, ← sn]
    have go := go _ rfl
    have ty : tyD "list" (S ++ [cell a 1])[0]?.join = true := by rw [g0]; rfl
    simp only [List.append_assoc, List.cons_append, List.nil_append] at go
    have g0' : (S ++ [cell a 1])[0]?.join = some (.lst, refsS (s.length + 1)) := by rw [g0]; rfl
    have app : appendF (.ref 0) [.ref S.length] (S ++ [cell a 1]) = some (.non, stoS (s ++ [(b, m), (a, 1)])) := by
      rw [appendF_ref g0 hlt, go]
    have ty2 : tyP "list" S (.ref 0) = true := tyP_ref h0
    have test : bAnd (bT (eV 1)) (bE (eOp eqF (eOp ixF (eOp ixF (eV 1) (eNeg (eC (.int 1)))) (eC (.int 0))) (eV 2))) [some (.con .own k (l.map PV.int)), some (.ref 0), some (.int a)] S = .ok false S := by
      simp [h0, hne, e1, hl, e2, h]
    have ap : eM "list" appendF (eV 1) (aCons (eLst true (aCons (eV 2) (aCons (eC (.int 1)) aNil))) aNil) [some (.con .own k (l.map PV.int)), some (.ref 0), some (.int a)] S = .ok .non (stoS (s ++ [(b, m), (a, 1)])) := by
      rw [eM_eq]
      simp only [eV_1, eV_0, emK_ok, ty2, if_true, aCons_eq, eLst_eq, eV_2, eC_eq, consK_ok, aNil_eq, consK2_ok, lstK_t, List.length_cons, List.length_nil]
      rw [if_pos (by simp [szl])]
      simp only [consK_ok, aNil_eq, consK2_ok, emK2_ok, app]
      rfl
    unfold l0_stretches_of
    simp only [sIf_eq, test, ifK_f, sExpr_eq, ap, exprK_ok, if_neg h, List.append_assoc, List.cons_append, List.nil_append]
end Law

namespace Law
open PySem PySem.Spec PyProof.Rows L2 Pv
theorem mapM_some {α β : Type} {g : α → Option β} {h : α → β} : ∀ (l : List α), (∀ x ∈ l, g x = some (h x)) → l.mapM g = some (l.map h)
  | [], _ => rfl
  | a :: l, H => by
    rw [List.mapM_cons, H a (by simp), mapM_some l (fun x hx => H x (by simp [hx]))]; rfl
theorem alt_len : ∀ {s : List (Int × Nat)}, Alt s → s.length ≤ (xp s).length
  | [], _ => Nat.le_refl _
  | (a, m) :: r, h => by
    obtain ⟨h1, _, h3⟩ := h
    have := alt_len h3
    simp [xp]; omega
abbrev pairL (p : Int × Nat) : PV := .con .own .lst [.int p.1, .int p.2]
abbrev pairT (p : Int × Nat) : PV := .con .own .tup [.int p.1, .int p.2]
theorem frz_cell {s : List (Int × Nat)} {k n : Nat} {p : Int × Nat} (h : s[k]? = some p) : frzV (n + 2) (stoS s) (.ref (k + 1)) = some (pairL p) := by
  have e : (stoS s)[k + 1]? = some (cell p.1 p.2) := by simp [stoS, h]
  have c : ([.int p.1, .int p.2] : List PV).mapM (frzV (n + 1) (stoS s)) = some [.int p.1, .int p.2] := frz_cleans rfl
  rw [frzV, if_neg (by simp [clean])]
  simp only [e, Option.join_some, cell, c, Option.map_some]
theorem resP_sto (s : List (Int × Nat)) : resP (stoS s) (.ref 0) = .ok (.con .own .lst (s.map pairL)) := by
  have e : (refsS s.length).mapM (frzV 8 (stoS s)) = some (s.map pairL) := by
    unfold refsS
    rw [mapM_some (h := fun q => match q with | .ref (k + 1) => (s[k]?.map pairL).getD .non | _ => .non)]
    · congr 1
      apply List.ext_getElem?
      intro i
      simp only [List.getElem?_map]
      by_cases hi : i < s.length
      · simp [hi]
      · have := Nat.le_of_not_lt hi
        simp [this]
    · intro q hq
      simp only [List.mem_map, List.mem_range] at hq
      obtain ⟨k, hk, rfl⟩ := hq
      have : s[k]? = some s[k] := List.getElem?_eq_getElem hk
      rw [frz_cell this]
      simp [this]
  unfold resP frzV
  rw [if_neg (by decide)]
  simp only [stoS_0, Option.join_some, e, Option.map_some]
theorem lsL_snoc (s : List (Int × Nat)) (a : Int) (m : Nat) : lsL (s ++ [(a, m)]) = some a := by simp [lsL]
/-- the last stretch, or none -/
theorem snoc_cases (s : List (Int × Nat)) : s = [] ∨ ∃ t b m, s = t ++ [(b, m)] := by
  rcases List.eq_nil_or_concat s with h | ⟨t, ⟨b, m⟩, h⟩
  · exact Or.inl h
  · exact Or.inr ⟨t, b, m, by simpa using h⟩
theorem stretches_gen {k : Kd} (hk : k = .tup ∨ k = .lst) (l : List Int) (hl : l.length < 100000) : ∃ s, Alt s ∧ xp s = l ∧ f_stretches_of [.con .own k (l.map PV.int)] = .ok (.con .own .lst (s.map pairL)) := by
  unfold f_stretches_of
  rw [runP_eq (np := 1) rfl]
  have key := forL_ind (body := sTurn (gN 2) l0_stretches_of) (fun ps Γ S => ∃ s r x, Γ = [some (.con .own k (l.map PV.int)), some (.ref 0), x] ∧ S = stoS s ∧ Alt s ∧ xp s ++ r = l ∧ ps = r.map PV.int)
    (fun r => ∃ s x, r = .nx [some (.con .own k (l.map PV.int)), some (.ref 0), x] (stoS s) ∧ Alt s ∧ xp s = l)
    (by rintro Γ S ⟨s, r, x, rfl, rfl, h1, h2, h3⟩
        cases r with
        | nil => exact ⟨s, x, rfl, h1, by simpa using h2⟩
        | cons => cases h3)
    (by
      rintro p ps Γ S ⟨s, r, x, rfl, rfl, h1, h2, h3⟩
      cases r with
      | nil => cases h3
      | cons a r =>
        simp only [List.map_cons, List.cons.injEq] at h3
        obtain ⟨rfl, rfl⟩ := h3
        have hlen : s.length < 100000 := by
          have := alt_len h1
          have : (xp s).length ≤ l.length := by rw [← h2]; simp
          omega
        refine Or.inl ?_
        rcases snoc_cases s with rfl | ⟨t, b, m, rfl⟩
        · exact ⟨_, _, Or.inl (by simp only [sTurn_N, List.set_cons_succ, List.set_cons_zero]; exact stretch_step0 l a x), [(a, 1)], r, _, rfl, rfl, ⟨Nat.le_refl _, by simp [hdL], trivial⟩, by simpa [xp] using h2, rfl⟩
        · simp only [List.length_append, List.length_cons, List.length_nil] at hlen
          refine ⟨_, _, Or.inl (by simp only [sTurn_N, List.set_cons_succ, List.set_cons_zero]; exact stretch_step l a b m t (by omega)), _, r, _, rfl, rfl, ?_, ?_, rfl⟩
          · obtain ⟨q1, q2, q3⟩ := alt_snoc.mp h1
            by_cases h : b = a
            · rw [if_pos h]; exact alt_snoc.mpr ⟨q1, by omega, q3⟩
            · rw [if_neg h]; exact alt_snoc.mpr ⟨h1, Nat.le_refl _, by rw [lsL_snoc]; simpa using h⟩
          · rw [← h2]
            by_cases h : b = a
            · subst h
              rw [if_pos rfl]
              simp [xp_app, xp, List.replicate_succ']
            · rw [if_neg h]
              simp [xp_app, xp])
    (l.map PV.int) [some (.con .own k (l.map PV.int)), some (.ref 0), none] (stoS []) ⟨[], l, none, rfl, rfl, trivial, rfl, rfl⟩
  obtain ⟨s, x, e, h1, h2⟩ := key
  refine ⟨s, h1, h2, ?_⟩
  have e0 : stoS [] = [some (.lst, [])] := rfl
  rw [e0] at e
  rcases hk with rfl | rfl <;> (simp [body_stretches_of, szl, e, r1_stretches_of]; exact resP_sto s)
theorem stretches_ok (l : List Int) (hl : l.length < 100000) : ∃ s, Alt s ∧ xp s = l ∧ f_stretches_of [.con .own .tup (l.map PV.int)] = .ok (.con .own .lst (s.map pairL)) := stretches_gen (Or.inl rfl) l hl
end Law

namespace Law
open PySem PySem.Spec PyProof.Rows L2 Pv
theorem pk_len3 {n : Nat} (h : n < 2097152) : (pk n).length ≤ 3 := by
  by_cases h1 : 128 ≤ n
  · rw [pk_ge h1]
    by_cases h2 : 128 ≤ n / 128
    · rw [pk_ge h2, pk_lt (show ¬ 128 ≤ n / 128 / 128 by omega)]; simp
    · rw [pk_lt h2]; simp
  · rw [pk_lt h1]; simp
/-- lines and counts within bounds -/
def Bd (s : List (Int × Nat)) : Prop := ∀ p ∈ s, 0 ≤ p.1 ∧ p.1 ≤ 1000000 ∧ 1 ≤ p.2 ∧ p.2 ≤ 10000
theorem zz_lt {a b : Int} (h1 : 0 ≤ a) (h2 : a ≤ 1000000) (h3 : 0 ≤ b) (h4 : b ≤ 1000000) : zz (a - b) < 2097152 := by
  unfold zz; split <;> omega
theorem pack_step (x0 : PV) (acc : List Int) (bf : Int) (p : Int × Nat) (x3 x4 : Option PV) (hp : 0 ≤ p.1 ∧ p.1 ≤ 1000000 ∧ 1 ≤ p.2 ∧ p.2 ≤ 10000) (hb : 0 ≤ bf ∧ bf ≤ 1000000) (hl : acc.length ≤ 10000000) :
    sTurn (gU [3, 4]) l0_pack_lines (pairL p) [some x0, some (LI acc), some (.int bf), x3, x4] [] = .nx [some x0, some (LI (acc ++ (pk (p.2 - 1) ++ pk (zz (p.1 - bf))))), some (.int p.1), some (.int p.1), some (.int p.2)] [] := by
  obtain ⟨a, m⟩ := p
  dsimp only at hp
  have e1 : ((m : Int) - 1) = ((m - 1 : Nat) : Int) := by omega
  have hz := zz_lt hp.1 hp.2.1 hb.1 hb.2
  have l1 := pk_len3 (show m - 1 < 2097152 by omega)
  have l2 := pk_len3 hz
  have p1 := packed_ok (m - 1) (by omega)
  have p2 := packed_ok (zz (a - bf)) (by omega)
  have a1 := fun S => addLI S acc (pk (m - 1)) (by omega)
  have a2 := fun S => addLI S (acc ++ pk (m - 1)) (pk (zz (a - bf))) (by simp; omega)
  simp only [sTurn_U, gU_lst, gNs_cons, gNs_nil, List.set_cons_succ, List.set_cons_zero]
  simp [l0_pack_lines, e1, p1, p2, folded_ok, a1, a2]
theorem pkS_len : ∀ (b : Int) (s : List (Int × Nat)), Bd s → 0 ≤ b → b ≤ 1000000 → (pkS b s).length ≤ 6 * s.length
  | _, [], _, _, _ => by simp [pkS]
  | b, (a, m) :: r, h, h1, h2 => by
    have hp := h (a, m) (by simp)
    have := pkS_len a r (fun p hp => h p (by simp [hp])) hp.1 hp.2.1
    have l1 := pk_len3 (show m - 1 < 2097152 by have := hp.2.2.2; simp at this; omega)
    have l2 := pk_len3 (zz_lt hp.1 hp.2.1 h1 h2)
    simp [pkS]; simp at l2; omega
theorem pack_lines_gen {k : Kd} (hk : k = .tup ∨ k = .lst) (l : List Int) (s : List (Int × Nat)) (hs : Alt s) (hx : xp s = l) (hl : l.length < 100000) (hb : Bd s) : f_pack_lines [.con .own k (l.map PV.int)] = .ok (LI (pkS 0 s)) := by
  obtain ⟨s', h1, h2, e0⟩ := stretches_gen hk l hl
  have : s' = s := alt_uniq h1 hs (h2.trans hx.symm)
  subst this
  have hsl : s'.length < 100000 := by have := alt_len h1; rw [h2] at this; omega
  have tot := pkS_len 0 s' hb (by omega) (by omega)
  unfold f_pack_lines
  rw [runP_eq (np := 1) rfl]
  have key := forL_ind (body := sTurn (gU [3, 4]) l0_pack_lines) (fun ps Γ S => ∃ acc bf r x3 x4, Γ = [some (.con .own k (l.map PV.int)), some (LI acc), some (.int bf), x3, x4] ∧ S = [] ∧ acc ++ pkS bf r = pkS 0 s' ∧ ps = r.map pairL ∧ Bd r ∧ 0 ≤ bf ∧ bf ≤ 1000000)
    (fun r => ∃ bf x3 x4, r = .nx [some (.con .own k (l.map PV.int)), some (LI (pkS 0 s')), some (.int bf), x3, x4] [])
    (by rintro Γ S ⟨acc, bf, r, x3, x4, rfl, rfl, q1, q2, q3⟩
        cases r with
        | nil => exact ⟨bf, x3, x4, by rw [← q1]; simp [pkS]⟩
        | cons => cases q2)
    (by
      rintro p ps Γ S ⟨acc, bf, r, x3, x4, rfl, rfl, q1, q2, q3, q4, q5⟩
      cases r with
      | nil => cases q2
      | cons a r =>
        simp only [List.map_cons, List.cons.injEq] at q2
        obtain ⟨rfl, rfl⟩ := q2
        have hp := q3 a (by simp)
        have hacc : acc.length ≤ 10000000 := by
          have : acc.length ≤ (pkS 0 s').length := by rw [← q1]; simp
          omega
        refine Or.inl ⟨_, _, Or.inl (pack_step _ acc bf a x3 x4 hp ⟨q4, q5⟩ hacc), _, a.1, r, _, _, rfl, rfl, ?_, rfl, fun p hp => q3 p (by simp [hp]), hp.1, hp.2.1⟩
        rw [← q1]; obtain ⟨a1, a2⟩ := a; simp [pkS])
    (s'.map pairL) [some (.con .own k (l.map PV.int)), some (LI []), some (.int 0), none, none] [] ⟨[], 0, s', none, none, rfl, rfl, rfl, rfl, hb, by omega, by omega⟩
  obtain ⟨bf, x3, x4, e⟩ := key
  have lt := fun S => lend_clean (S := S) (clean_ints (m := .own) (by decide) (k := k) l)
  have ec : clean (LI (pkS 0 s')) = true := clean_ints (by decide) _
  simp only [LI, List.map_nil] at e
  simp [body_pack_lines, szl, lt, e0, e, r1_pack_lines, resP_clean ec]
theorem pack_lines_ok (l : List Int) (s : List (Int × Nat)) (hs : Alt s) (hx : xp s = l) (hl : l.length < 100000) (hb : Bd s) : f_pack_lines [.con .own .tup (l.map PV.int)] = .ok (LI (pkS 0 s)) := pack_lines_gen (Or.inl rfl) l s hs hx hl hb
end Law

namespace Law
open PySem PySem.Spec PyProof.Rows L2 Pv
def cnt (s : List (Int × Nat)) : Nat := (s.map (·.2)).sum
theorem cnt_app (s t : List (Int × Nat)) : cnt (s ++ t) = cnt s + cnt t := by simp [cnt]
theorem xp_len : ∀ s : List (Int × Nat), (xp s).length = cnt s
  | [] => rfl
  | (a, m) :: r => by simp [xp, cnt, xp_len r]
theorem read_step {data : List Int} {i j1 j2 k : Nat} {a line : Int} {done : List (Int × Nat)} {tot : Nat} {x5 x6 x7 : Option PV}
    (hz : data.length ≤ 16777216)
    (u1 : f_unpacked [LI data, .int i] = .ok (.con .own .tup [.int k, .int j1])) (u2 : f_unpacked [LI data, .int j1] = .ok (.con .own .tup [.int (zz (a - line)), .int j2]))
    (ht : tot + (k + 1) ≤ 10000) (h0 : 0 ≤ a) (h1 : a ≤ 1000000) (hd : done = [] ∨ a ≠ line) (hl : done.length < 10000) :
    l2_read_stretches [some (LI data), some (.ref 0), some (.int i), some (.int line), some (.int tot), x5, x6, x7] [some (.lst, done.map pairT)] =
      .nx [some (LI data), some (.ref 0), some (.int j2), some (.int a), some (.int ((tot + (k + 1) : Nat) : Int)), some (.int k), some (.int (zz (a - line))), some (.int a)] [some (.lst, (done ++ [(a, k + 1)]).map pairT)] := by
  have ll := fun S => lendLI S data
  have e1 : line + (a - line) = a := by omega
  have q1 : ¬ (10000 : Int) < (tot : Int) + ((k : Int) + 1) := by omega
  have uf := unfolded_ok (a - line)
  have e2 : (done.map pairT).isEmpty = done.isEmpty := by cases done <;> rfl
  rcases hd with rfl | hd
  · simp [l2_read_stretches, r1_read_stretches, r0_read_stretches, szl, ll, u1, u2, uf, e1, q1, c_LINES, c_MOST_LINES, h0, h1]
  · by_cases hn : done = []
    · subst hn
      simp [l2_read_stretches, r1_read_stretches, r0_read_stretches, szl, ll, u1, u2, uf, e1, q1, c_LINES, c_MOST_LINES, h0, h1]
    · have e3 : done.isEmpty = false := by cases done <;> simp_all
      simp [l2_read_stretches, r1_read_stretches, r0_read_stretches, szl, ll, u1, u2, uf, e1, q1, c_LINES, c_MOST_LINES, h0, h1, e2, e3, hd, show done.length < 16777216 from by omega, hn]
end Law

namespace Law
open PySem PySem.Spec PyProof.Rows L2 Pv
theorem lsD_snoc (b : Int) (s : List (Int × Nat)) (a : Int) (m : Nat) : lsD b (s ++ [(a, m)]) = a := by simp [lsD, lsL]
theorem cleans_pairs (s : List (Int × Nat)) : cleans (s.map pairT) = true := by
  induction s with
  | nil => rfl
  | cons a l ih => simp only [List.map_cons, cleans, clean, ih, Bool.and_self]
theorem alt_mid : ∀ {s : List (Int × Nat)} {a : Int} {m : Nat} {r : List (Int × Nat)}, Alt (s ++ (a, m) :: r) → s = [] ∨ a ≠ lsD 0 s
  | s, a, m, r, h => by
    rcases snoc_cases s with rfl | ⟨t, b, n, rfl⟩
    · exact Or.inl rfl
    · right
      rw [lsD_snoc]
      induction t with
      | nil =>
        obtain ⟨_, h2, _⟩ := h
        simp [hdL] at h2
        exact h2
      | cons c t ih => exact ih h.2.2
theorem read_ok (s : List (Int × Nat)) (hs : Alt s) (hb : Bd s) (hc : cnt s ≤ 10000) : f_read_stretches [LI (pkS 0 s)] = .ok (.con .own .lst (s.map pairT)) := by
  have hsl : s.length < 16777216 := by have := alt_len hs; rw [xp_len] at this; omega
  have hsl2 : s.length ≤ 10000 := by have := alt_len hs; rw [xp_len] at this; omega
  have tot := pkS_len 0 s hb (by omega) (by omega)
  unfold f_read_stretches
  rw [runP_eq (np := 1) rfl]
  generalize hD : pkS 0 s = data at tot ⊢
  have hz : data.length ≤ 16777216 := by omega
  have key := sWhl_ind (c := bE (eOp ltF (eV 2) (eCall lenF (aCons (eV 0) aNil)))) (t := l2_read_stretches)
    (fun m Γ S => ∃ (done r : List (Int × Nat)) (i : Nat) (x5 x6 x7 : Option PV), Γ = [some (LI data), some (.ref 0), some (.int i), some (.int (lsD 0 done)), some (.int (cnt done)), x5, x6, x7] ∧ S = [some (.lst, done.map pairT)] ∧ done ++ r = s ∧ data.drop i = pkS (lsD 0 done) r ∧ m = r.length)
    (fun r => ∃ i line tt x5 x6 x7, r = .nx [some (LI data), some (.ref 0), some i, some line, some tt, x5, x6, x7] [some (.lst, s.map pairT)])
    (by
      rintro m Γ S ⟨done, r, i, x5, x6, x7, rfl, rfl, q1, q2, rfl⟩
      cases r with
      | nil =>
        have : data.length ≤ i := by simpa [pkS] using q2
        rw [List.append_nil] at q1
        subst q1
        exact Or.inl ⟨[some (.lst, done.map pairT)], by simp [show ¬ i < data.length from by omega], _, _, _, _, _, _, rfl⟩
      | cons p r =>
        obtain ⟨a, m⟩ := p
        have hp := hb (a, m) (by rw [← q1]; simp)
        dsimp only at hp
        obtain ⟨k, rfl⟩ : ∃ k, m = k + 1 := ⟨m - 1, by omega⟩
        have hcd : cnt done + ((k + 1) + cnt r) = cnt s := by rw [← q1, cnt_app]; simp [cnt]
        simp only [pkS, Nat.add_sub_cancel] at q2
        have hlt : i < data.length := by
          apply Nat.lt_of_not_le
          intro q
          rw [List.drop_eq_nil_of_le q] at q2
          have : pk k ≠ [] := by rw [pk]; split <;> simp
          simp [this] at q2
        have hdl : 0 ≤ lsD 0 done ∧ lsD 0 done ≤ 1000000 := by
          rcases snoc_cases done with rfl | ⟨t, b, n, rfl⟩
          · simp [lsD, lsL]
          · rw [lsD_snoc]
            have := hb (b, n) (by rw [← q1]; simp)
            exact ⟨this.1, this.2.1⟩
        have hzz := zz_lt hp.1 hp.2.1 hdl.1 hdl.2
        obtain ⟨u1, d1⟩ := unpacked_ok (n := k) q2 (by omega)
        obtain ⟨u2, d2⟩ := unpacked_ok d1 (by omega)
        have hdone : done.length < 10000 := by
          have : done.length + 1 ≤ s.length := by rw [← q1]; simp
          omega
        have st := read_step (x5 := x5) (x6 := x6) (x7 := x7) hz u1 u2 (show cnt done + (k + 1) ≤ 10000 by omega) hp.1 hp.2.1 (alt_mid (by rw [q1]; exact hs)) hdone
        refine Or.inr ⟨[some (.lst, done.map pairT)], by simp [hlt], Or.inl ⟨r.length, _, _, by simp, st, done ++ [(a, k + 1)], r, _, some (.int k), some (.int (zz (a - lsD 0 done))), some (.int a), ?_, rfl, by simpa using q1, by rw [lsD_snoc]; exact d2, rfl⟩⟩
        rw [lsD_snoc, cnt_app]
        simp [cnt])
    (m := s.length) (Γ := [some (LI data), some (.ref 0), some (.int 0), some (.int 0), some (.int 0), none, none, none]) (S := [some (.lst, [])]) ⟨[], s, 0, none, none, none, rfl, rfl, rfl, by rw [← hD]; rfl, rfl⟩ (by omega)
  obtain ⟨i, line, tt, x5, x6, x7, e⟩ := key
  have er : resP [some (.lst, s.map pairT)] (.ref 0) = .ok (.con .own .lst (s.map pairT)) := resP_ref rfl (cleans_pairs s)
  simp [body_read_stretches, szl, e, r3_read_stretches, er]
end Law

namespace Law
open PySem PySem.Spec PyProof.Rows L2 Pv
theorem mulLI (S : Sto) (a : Int) (m : Nat) (h : m ≤ 10000) : mulF false (.con .own .lst [.int a]) (.int m) S = some (LI (List.replicate m a), S) := by
  have e : (List.replicate m [PV.int a]).flatten = (List.replicate m a).map PV.int := by
    induction m with
    | zero => rfl
    | succ m ih => rw [List.replicate_succ, List.replicate_succ, List.flatten_cons, ih (by omega)]; rfl
  have c : -(2 ^ 63) ≤ (m : Int) ∧ (m : Int) < 2 ^ 63 ∧ ([.int a] : List PV).length * (m : Int).toNat ≤ sizeLine := ⟨by omega, by omega, by simp [szl]; omega⟩
  simp only [mulF, derefH_own]
  rw [if_pos c]
  simp [e]
theorem lendP (S : Sto) (s : List (Int × Nat)) {k : Kd} : lendV S (.con .own k (s.map pairT)) = some (.con .own k (s.map pairT)) := lend_clean (by simpa [clean] using cleans_pairs s)
theorem unl_step (data acc : List Int) (a : Int) (m : Nat) (x2 x3 : Option PV) (hm : m ≤ 10000) (hl : acc.length + m ≤ 20000) :
    sTurn (gU [2, 3]) l0_unpack_lines (pairT (a, m)) [some (LI data), some (LI acc), x2, x3] [] = .nx [some (LI data), some (LI (acc ++ List.replicate m a)), some (.int a), some (.int m)] [] := by
  have e1 := fun S => mulLI S a m hm
  have e2 := fun S => addLI S acc (List.replicate m a) (by simp; omega)
  simp only [sTurn_U, gU_tup, gNs_cons, gNs_nil, List.set_cons_succ, List.set_cons_zero]
  simp only [LI] at e1 e2
  simp [-List.map_replicate, -List.map_append, l0_unpack_lines, szl, e1, e2]
theorem unpack_lines_ok (s : List (Int × Nat)) (hs : Alt s) (hb : Bd s) (hc : cnt s ≤ 10000) : f_unpack_lines [LI (pkS 0 s)] = .ok (.con .own .tup ((xp s).map PV.int)) := by
  have rd := read_ok s hs hb hc
  generalize pkS 0 s = data at rd ⊢
  unfold f_unpack_lines
  rw [runP_eq (np := 1) rfl]
  have key := forL_ind (body := sTurn (gU [2, 3]) l0_unpack_lines) (fun ps Γ S => ∃ (done r : List (Int × Nat)) (x2 x3 : Option PV), Γ = [some (LI data), some (LI (xp done)), x2, x3] ∧ S = [] ∧ done ++ r = s ∧ ps = r.map pairT)
    (fun r => ∃ x2 x3, r = .nx [some (LI data), some (LI (xp s)), x2, x3] [])
    (by rintro Γ S ⟨done, r, x2, x3, rfl, rfl, q1, q2⟩
        cases r with
        | nil => rw [List.append_nil] at q1; subst q1; exact ⟨x2, x3, rfl⟩
        | cons => cases q2)
    (by
      rintro p ps Γ S ⟨done, r, x2, x3, rfl, rfl, q1, q2⟩
      cases r with
      | nil => cases q2
      | cons a r =>
        obtain ⟨a, m⟩ := a
        simp only [List.map_cons, List.cons.injEq] at q2
        obtain ⟨rfl, rfl⟩ := q2
        have hcd : cnt done + (m + cnt r) = cnt s := by rw [← q1, cnt_app]; simp [cnt]
        refine Or.inl ⟨_, _, Or.inl (unl_step data (xp done) a m x2 x3 (by omega) (by rw [xp_len]; omega)), done ++ [(a, m)], r, some (.int a), some (.int m), ?_, rfl, by simpa using q1, rfl⟩
        rw [xp_app]; simp [xp])
    (s.map pairT) [some (LI data), some (LI []), none, none] [] ⟨[], s, none, none, rfl, rfl, rfl, rfl⟩
  obtain ⟨x2, x3, e⟩ := key
  have ll := fun S => lendLI S data
  have er : clean (.con .own .tup ((xp s).map PV.int)) = true := clean_ints (by decide) _
  simp only [LI, List.map_nil] at e ll rd
  simp [body_unpack_lines, szl, ll, rd, e, r1_unpack_lines, resP_clean er]
def lk (l : List Int) (i : Int) : Option Int := if 0 ≤ i then l[i.toNat]? else none
theorem lk_cons (a : Int) (m : Nat) (r : List (Int × Nat)) (j : Int) : lk (xp ((a, m) :: r)) j = if 0 ≤ j ∧ j < m then some a else lk (xp r) (j - m) := by
  unfold lk
  by_cases h : 0 ≤ j
  · by_cases h2 : j < m
    · rw [if_pos h, if_pos ⟨h, h2⟩]
      have : j.toNat < m := by omega
      simp [xp, List.getElem?_append_left, this]
    · rw [if_pos h, if_neg (by omega), if_pos (by omega)]
      have e : (j - (m : Int)).toNat = j.toNat - m := by omega
      rw [xp, List.getElem?_append_right (by simp; omega), e]; simp
  · rw [if_neg h, if_neg (by omega), if_neg (by omega)]
def lineR (o : Option Int) : RP := match o with
  | some v => .ok (.int v)
  | none => .ex "BadIndex" []
theorem line_at_ok (s : List (Int × Nat)) (hs : Alt s) (hb : Bd s) (hc : cnt s ≤ 10000) (i : Int) : f_line_at [LI (pkS 0 s), .int i] = lineR (lk (xp s) i) := by
  have rd := read_ok s hs hb hc
  generalize pkS 0 s = data at rd ⊢
  unfold f_line_at
  rw [runP_eq (np := 2) rfl]
  have key := forL_ind (body := sTurn (gU [3, 4]) l1_line_at) (fun ps Γ S => ∃ (j : Int) (r : List (Int × Nat)) (x3 x4 : Option PV), Γ = [some (LI data), some (.int i), some (.int j), x3, x4] ∧ S = [] ∧ lk (xp r) j = lk (xp s) i ∧ ps = r.map pairT)
    (fun r => (∃ v, lk (xp s) i = some v ∧ r = .rt (.int v) []) ∨ (lk (xp s) i = none ∧ ∃ Γ, r = .nx Γ []))
    (by rintro Γ S ⟨j, r, x3, x4, rfl, rfl, q1, q2⟩
        cases r with
        | nil => exact Or.inr ⟨by rw [← q1]; unfold lk; split <;> simp [xp], _, rfl⟩
        | cons => cases q2)
    (by
      rintro p ps Γ S ⟨j, r, x3, x4, rfl, rfl, q1, q2⟩
      cases r with
      | nil => cases q2
      | cons a r =>
        obtain ⟨a, m⟩ := a
        simp only [List.map_cons, List.cons.injEq] at q2
        obtain ⟨rfl, rfl⟩ := q2
        rw [lk_cons] at q1
        simp only [sTurn_U, gU_tup, gNs_cons, gNs_nil, List.set_cons_succ, List.set_cons_zero]
        by_cases c : 0 ≤ j ∧ j < m
        · rw [if_pos c] at q1
          exact Or.inr (Or.inl ⟨.int a, [], by simp [l1_line_at, c.1, c.2], Or.inl ⟨a, q1.symm, rfl⟩⟩)
        · rw [if_neg c] at q1
          refine Or.inl ⟨[some (LI data), some (.int i), some (.int (j - m)), some (.int a), some (.int m)], [], Or.inl ?_, j - m, r, _, _, rfl, rfl, q1, rfl⟩
          by_cases h0 : 0 ≤ j
          · have : ¬ j < m := fun q => c ⟨h0, q⟩
            simp [l1_line_at, r0_line_at, h0, this]
          · simp [l1_line_at, r0_line_at, h0])
    (s.map pairT) [some (LI data), some (.int i), some (.int i), none, none] [] ⟨i, s, none, none, rfl, rfl, rfl, rfl⟩
  have ll := fun S => lendLI S data
  rcases key with ⟨v, e1, e⟩ | ⟨e1, Γ, e⟩
  · simp [body_line_at, szl, ll, rd, e, e1, lineR]
  · simp [body_line_at, szl, ll, rd, e, r2_line_at, e1, lineR, cleans]
end Law

namespace Law
open PySem PySem.Spec PyProof.Rows L2 Pv
def lnR (i : Nat) : UR → PV
  | .ok n k => .con .own .lst [.int n, .int (i + k : Nat)]
  | .bad k => .con .own .lst [.int (-1), .int (i + k : Nat)]
theorem ln_turn {data : List Int} {j : Nat} {c num fac : Int} {S : Sto} (ha : L2.atI (data.map PV.int) (j : Int) = some (.int c)) (b0 : 128 ≤ c) (b1 : c < 256) :
    l0_law_number [some (LI data), some (.int j), some (.int num), some (.int fac)] S = .nx [some (LI data), some (.int (j + 1)), some (.int (num + (c - 128) * fac)), some (.int (fac * 128))] S := by
  have m1 : CMul (c - 128) fac := Or.inl ⟨by omega, by omega⟩
  have m2 : CMul fac 128 := Or.inr ⟨by omega, by omega⟩
  simp [l0_law_number, m1, m2, ha]
theorem number_gen (data : List Int) (i : Nat) (hi : i ≤ data.length) (hz : data.length < 100000000) : f_law_number [LI data, .int i] = .ok (lnR i (un true (data.drop i))) := by
  unfold f_law_number
  rw [runP_eq (np := 2) rfl]
  have key := sWhl_ind2 (c := bAnd (bE (eOp ltF (eV 1) (eCall lenF (aCons (eV 0) aNil)))) (bE (eChain leF leF (eC (.int 128)) (eOp ixF (eV 0) (eV 1)) (eC (.int 255))))) (t := l0_law_number)
    (fun m Γ S => ∃ (j num fac : Nat), Γ = [some (LI data), some (.int j), some (.int num), some (.int fac)] ∧ S = [] ∧ j ≤ data.length ∧ m = data.length - j ∧ 1 ≤ fac ∧
      lnR i (un true (data.drop i)) = (match un (decide (fac = 1)) (data.drop j) with | .ok n k => .con .own .lst [.int (num + fac * n : Nat), .int (j + k : Nat)] | .bad k => .con .own .lst [.int (-1), .int (j + k : Nat)]))
    (fun r => rupK (seqK r2_law_number r) = .ok (lnR i (un true (data.drop i))))
    (by
      rintro m Γ S ⟨j, num, fac, rfl, rfl, hj, rfl, hf, e⟩
      have rc : ∀ (a b : Int) S, resP S (.con .own .lst [.int a, .int b]) = .ok (.con .own .lst [.int a, .int b]) := fun a b S => resP_clean rfl
      cases hd : data.drop j with
      | nil =>
        have hl : data.length ≤ j := by simpa using hd
        rw [hd] at e
        simp only [un] at e
        refine Or.inl ⟨[], by simp [show ¬ j < data.length by omega], ?_⟩
        rw [e]
        simp [r2_law_number, szl, hl, rc, clean]
      | cons c r =>
        obtain ⟨hl, ha, hr⟩ := atI_dropL hd
        rw [hd, un] at e
        by_cases h8 : 128 ≤ c ∧ c < 256
        · rw [if_pos (by omega), if_neg (by omega)] at e
          refine Or.inr ⟨[], by simp [hl, ha, h8.1, show c ≤ 255 by omega], ?_⟩
          rw [ln_turn ha h8.1 h8.2, Trn_nx]
          have e1 : ((num : Int) + (c - 128) * fac) = ((num + (c - 128).toNat * fac : Nat) : Int) := by
            have : ((c - 128).toNat : Int) = c - 128 := by omega
            push_cast
            rw [this]
          refine ⟨data.length - (j + 1), by omega, j + 1, num + (c - 128).toNat * fac, fac * 128, by rw [e1]; simp, rfl, hl, rfl, by omega, ?_⟩
          rw [e, hr, show decide (fac * 128 = 1) = false from by simp; omega]
          cases un false r with
          | ok n k =>
            simp only
            have a1 : num + fac * ((c - 128).toNat + 128 * n) = num + (c - 128).toNat * fac + fac * 128 * n := by
              rw [Nat.mul_add, Nat.mul_comm fac, ← Nat.mul_assoc, Nat.add_assoc]
            have a2 : j + (k + 1) = j + 1 + k := by omega
            rw [a1, a2]
          | bad k =>
            simp only
            rw [show j + (k + 1) = j + 1 + k by omega]
        · refine Or.inl ⟨[], ?_, ?_⟩
          · by_cases h1 : 128 ≤ c
            · simp [hl, ha, h1, show ¬ c ≤ 255 by omega]
            · simp [hl, ha, h1]
          · by_cases hc : 0 ≤ c ∧ c < 256
            · rw [if_pos hc, if_pos (by omega)] at e
              have m1 : CMul c (fac : Int) := Or.inl ⟨by omega, by omega⟩
              by_cases h0 : c = 0 ∧ decide (fac = 1) = false
              · rw [if_pos h0] at e
                obtain ⟨rfl, h1⟩ := h0
                rw [e]
                simp at h1
                simp [r2_law_number, szl, hl, ha, rc, clean, show ¬ data.length ≤ j by omega, show (1 : Int) < fac by omega]
              · rw [if_neg h0] at e
                have h0' : ¬ (c = 0 ∧ (1 : Int) < fac) := fun q => h0 ⟨q.1, by simp; omega⟩
                have e1 : ((num + fac * c.toNat : Nat) : Int) = num + c * fac := by
                  have : (c.toNat : Int) = c := by omega
                  push_cast
                  rw [this, Int.mul_comm]
                rw [e]
                dsimp only
                rw [e1]
                by_cases c0 : c = 0
                · subst c0
                  have : ¬ (1 : Int) < fac := fun q => h0' ⟨rfl, q⟩
                  simp [r2_law_number, r1_law_number, szl, ha, rc, clean, show ¬ data.length ≤ j by omega, m1, this]
                · simp [r2_law_number, r1_law_number, szl, ha, rc, clean, show ¬ data.length ≤ j by omega, m1, hc.1, show c ≤ 255 by omega, c0]
            · rw [if_neg hc] at e
              rw [e]
              by_cases c0 : 0 ≤ c
              · simp [r2_law_number, szl, ha, rc, clean, show ¬ data.length ≤ j by omega, c0, show ¬ c ≤ 255 by omega]
              · simp [r2_law_number, szl, ha, rc, clean, show ¬ data.length ≤ j by omega, c0])
    (m := data.length - i) (Γ := [some (LI data), some (.int i), some (.int (0 : Nat)), some (.int (1 : Nat))]) (S := []) ⟨i, 0, 1, rfl, rfl, hi, rfl, by omega, by
      unfold lnR
      simp only [decide_true]
      cases un true (data.drop i) <;> simp⟩ (by omega)
  simp only [body_law_number, sSeq_eq, sSet_eq, eC_eq, setK_ok, seqK_nx, List.length_cons, List.length_nil, List.map_cons, List.map_nil, List.replicate, List.cons_append, List.nil_append, List.set_cons_succ, List.set_cons_zero]
  exact key
end Law

namespace Law
open PySem PySem.Spec PyProof.Rows L2 Pv
inductive R1 where
  | ok (o : Int) (m k : Nat) | bad (k : Nat)
def rs1 (l : List Int) (line : Int) (tot : Nat) (first : Bool) : R1 := match un true l with
  | .bad k => .bad k
  | .ok m k => if 10000 < tot + m + 1 then .bad (k - 1) else match un true (l.drop k) with
    | .bad j => .bad (k + j)
    | .ok st j => if ¬ (0 ≤ line + unz st ∧ line + unz st ≤ 1000000) ∨ (first = false ∧ unz st = 0) then .bad (k + j - 1) else .ok (line + unz st) (m + 1) (k + j)
theorem rs_succ (f : Nat) (l : List Int) (line : Int) (tot : Nat) (first : Bool) (h : l ≠ []) : rs (f + 1) l line tot first = match rs1 l line tot first with
    | .bad k => .bad k
    | .ok o m k => match rs f (l.drop k) o (tot + m) false with
      | .ok s => .ok ((o, m) :: s)
      | .bad i => .bad (k + i) := by
  rw [rs, if_neg h]
  unfold rs1
  cases un true l with
  | bad k => rfl
  | ok m k =>
    dsimp only
    by_cases c : 10000 < tot + m + 1
    · rw [if_pos c, if_pos c]
    · rw [if_neg c, if_neg c]
      cases un true (l.drop k) with
      | bad j => rfl
      | ok st j =>
        dsimp only
        by_cases c2 : ¬ (0 ≤ line + unz st ∧ line + unz st ≤ 1000000) ∨ (first = false ∧ unz st = 0)
        · rw [if_pos c2, if_pos c2]
        · rw [if_neg c2, if_neg c2]
          rfl
theorem rs1_pos {l : List Int} {line o : Int} {tot m k : Nat} {first : Bool} (h : rs1 l line tot first = .ok o m k) : 2 ≤ k ∧ k ≤ l.length ∧ 1 ≤ m ∧ tot + m ≤ 10000 := by
  unfold rs1 at h
  split at h
  · cases h
  · rename_i a j e1
    split at h
    · cases h
    · split at h
      · cases h
      · rename_i st i e2
        split at h
        · cases h
        · cases h
          have := un_pos e1
          have := un_pos e2
          simp only [List.length_drop] at this
          omega
theorem unfolded_gen (n : Nat) : f_unfolded [.int n] = .ok (.int (unz n)) := by
  have := unfolded_ok (unz n)
  rw [zz_unz] at this
  exact this
/-- one stretch read by the program -/
theorem rd_turn {data : List Int} {i tot : Nat} {line : Int} {s : List (Int × Nat)} {x5 x6 x7 : Option PV} {S : Sto} (hS : S = [some (.lst, s.map pairT)]) (hi : i ≤ data.length) (hz : data.length < 100000000) (hs : s.length < 1000000) :
    (∃ o m k y5 y6 y7, rs1 (data.drop i) line tot s.isEmpty = .ok o m k ∧ l2_read_stretches [some (LI data), some (.ref 0), some (.int i), some (.int line), some (.int tot), x5, x6, x7] S =
      .nx [some (LI data), some (.ref 0), some (.int (i + k : Nat)), some (.int o), some (.int (tot + m : Nat)), y5, y6, y7] [some (.lst, (s ++ [(o, m)]).map pairT)]) ∨
    (∃ k, rs1 (data.drop i) line tot s.isEmpty = .bad k ∧ Rx (l2_read_stretches [some (LI data), some (.ref 0), some (.int i), some (.int line), some (.int tot), x5, x6, x7] S) "BadData" [("index", .int (i + k : Nat))]) := by
  subst hS
  have ll := fun S => lendLI S data
  have u1 := unpacked_gen data i hi hz
  have em : (s.map pairT).isEmpty = s.isEmpty := by cases s <;> rfl
  unfold rs1
  cases e1 : un true (data.drop i) with
  | bad k =>
    rw [e1] at u1
    refine Or.inr ⟨k, rfl, ?_⟩
    simp only [unR, LI] at u1 ll
    simp [-Int.natCast_add, l2_read_stretches, ll, u1]
  | ok m k =>
    rw [e1] at u1
    have hk := un_pos e1
    simp only [List.length_drop] at hk
    dsimp only
    have e9 : (tot : Int) + ((m : Int) + 1) = ((tot + (m + 1) : Nat) : Int) := by omega
    by_cases c : 10000 < tot + m + 1
    · rw [if_pos c]
      refine Or.inr ⟨k - 1, rfl, ?_⟩
      have e2 : ((i + k : Nat) : Int) - 1 = (i + (k - 1) : Nat) := by omega
      simp only [unR, LI] at u1 ll
      simp [-Int.natCast_add, l2_read_stretches, ll, u1, c_MOST_LINES, e9, e2, show (10000 : Int) < (tot + (m + 1) : Nat) by omega]
    · rw [if_neg c]
      have u2 := unpacked_gen data (i + k) (by omega) hz
      rw [List.drop_drop]
      have c1 : ¬ (10000 : Int) < (tot + (m + 1) : Nat) := by omega
      cases e2 : un true (data.drop (i + k)) with
      | bad j =>
        rw [e2] at u2
        refine Or.inr ⟨k + j, rfl, ?_⟩
        have a1 : i + (k + j) = i + k + j := by omega
        simp only [unR, LI] at u1 u2 ll
        simp [-Int.natCast_add, l2_read_stretches, r1_read_stretches, ll, u1, u2, c_MOST_LINES, e9, c1, a1]
      | ok st j =>
        rw [e2] at u2
        have hj := un_pos e2
        simp only [List.length_drop] at hj
        dsimp only
        have uf := unfolded_gen st
        have eq0 : (line + unz st = line) ↔ unz st = 0 := by omega
        have a2 : ((i + k + j : Nat) : Int) - 1 = (i + (k + j - 1) : Nat) := by omega
        simp only [unR, LI] at u1 u2 ll
        by_cases b0 : 0 ≤ line + unz st ∧ line + unz st ≤ 1000000
        · by_cases b1 : s.isEmpty = false ∧ unz st = 0
          · rw [if_pos (Or.inr b1)]
            refine Or.inr ⟨k + j - 1, rfl, ?_⟩
            have e3 : line + unz st = line := by omega
            have b3 : ¬ s = [] := by intro q; subst q; simp at b1
            have b5 : 0 ≤ line := by omega
            have b6 : line ≤ 1000000 := by omega
            simp [-Int.natCast_add, l2_read_stretches, r1_read_stretches, ll, u1, u2, c_MOST_LINES, c_LINES, e9, c1, uf, b0.1, b0.2, em, b1.1, b1.2, a2, b5, b6]
          · rw [if_neg (by rintro (h | h); exact h b0; exact b1 h)]
            refine Or.inl ⟨line + unz st, m + 1, k + j, some (.int m), some (.int st), some (.int (line + unz st)), rfl, ?_⟩
            have a1 : i + (k + j) = i + k + j := by omega
            rw [a1]
            have hsz : s.length < 16777216 := by omega
            have em9 : (s.map pairT).length < 16777216 := by simpa using hsz
            cases hse : s.isEmpty with
            | true =>
              simp [-Int.natCast_add, l2_read_stretches, r1_read_stretches, r0_read_stretches, szl, ll, u1, u2, c_MOST_LINES, c_LINES, e9, c1, uf, b0.1, b0.2, em, hse, hsz]
              simp
            | false =>
              have hne : ¬ unz st = 0 := fun q => b1 ⟨hse, q⟩
              have hn2 : ¬ line + unz st = line := fun q => hne (eq0.mp q)
              simp [-Int.natCast_add, l2_read_stretches, r1_read_stretches, r0_read_stretches, szl, ll, u1, u2, c_MOST_LINES, c_LINES, e9, c1, uf, b0.1, b0.2, em, hse, hne, hn2, hsz]
              simp
        · rw [if_pos (Or.inl b0)]
          refine Or.inr ⟨k + j - 1, rfl, ?_⟩
          by_cases b3 : 0 ≤ line + unz st
          · have b4 : ¬ line + unz st ≤ 1000000 := fun q => b0 ⟨b3, q⟩
            simp [-Int.natCast_add, l2_read_stretches, r1_read_stretches, ll, u1, u2, c_MOST_LINES, c_LINES, e9, c1, uf, b3, b4, a2]
          · simp [-Int.natCast_add, l2_read_stretches, r1_read_stretches, ll, u1, u2, c_MOST_LINES, c_LINES, e9, c1, uf, b3, a2]
end Law

namespace Law
open PySem PySem.Spec PyProof.Rows L2 Pv
def srR : SR → RP
  | .ok s => .ok (.con .own .lst (s.map pairT))
  | .bad k => .ex "BadData" [("index", .int k)]
theorem read_gen (data : List Int) (hz : data.length < 1000000) : f_read_stretches [LI data] = srR (rs data.length data 0 0 true) := by
  unfold f_read_stretches
  rw [runP_eq (np := 1) rfl]
  have key := sWhl_ind2 (c := bE (eOp ltF (eV 2) (eCall lenF (aCons (eV 0) aNil)))) (t := l2_read_stretches)
    (fun m Γ S => ∃ (s : List (Int × Nat)) (i f tot : Nat) (line : Int) (x5 x6 x7 : Option PV), Γ = [some (LI data), some (.ref 0), some (.int i), some (.int line), some (.int tot), x5, x6, x7] ∧ S = [some (.lst, s.map pairT)] ∧ i ≤ data.length ∧ m = data.length - i ∧ s.length ≤ i ∧ (data.drop i).length ≤ f ∧
      rs data.length data 0 0 true = (match rs f (data.drop i) line tot s.isEmpty with | .ok r => .ok (s ++ r) | .bad k => .bad (i + k)))
    (fun r => (∃ s i line tot x5 x6 x7, rs data.length data 0 0 true = .ok s ∧ r = .nx [some (LI data), some (.ref 0), i, line, tot, x5, x6, x7] [some (.lst, s.map pairT)]) ∨ (∃ k, rs data.length data 0 0 true = .bad k ∧ Rx r "BadData" [("index", .int k)]))
    (by
      rintro m Γ S ⟨s, i, f, tot, line, x5, x6, x7, rfl, rfl, hi, rfl, hl, hf, e⟩
      by_cases hd : i < data.length
      · refine Or.inr ⟨_, by simp [hd]; rfl, ?_⟩
        simp only [List.length_drop] at hf
        obtain ⟨g, rfl⟩ : ∃ g, f = g + 1 := ⟨f - 1, by omega⟩
        rw [rs_succ _ _ _ _ _ (by intro q; have := congrArg List.length q; simp at this; omega)] at e
        rcases rd_turn (data := data) (i := i) (tot := tot) (line := line) (s := s) (x5 := x5) (x6 := x6) (x7 := x7) rfl hi (by omega) (by omega) with ⟨o, n, k, y5, y6, y7, e1, e2⟩ | ⟨k, e1, e2⟩
        · rw [e2]
          rw [e1] at e
          obtain ⟨k1, k2, _⟩ := rs1_pos e1
          simp only [List.length_drop] at k2
          refine ⟨data.length - (i + k), by omega, s ++ [(o, n)], i + k, g, tot + n, o, y5, y6, y7, rfl, rfl, by omega, rfl, by simp; omega, by simp; omega, ?_⟩
          rw [e]
          dsimp only
          rw [List.drop_drop, show (s ++ [(o, n)]).isEmpty = false by simp]
          cases rs g (data.drop (i + k)) o (tot + n) false with
          | ok r => simp
          | bad j => simp only; congr 1; omega
        · rw [e1] at e
          obtain ⟨Γ', S', e2⟩ := e2.out
          rw [e2]
          exact Or.inr ⟨i + k, e, by simp⟩
      · refine Or.inl ⟨_, by simp [hd]; rfl, Or.inl ?_⟩
        rw [List.drop_eq_nil_of_le (by omega)] at e
        have : ∀ f, rs f [] line tot s.isEmpty = .ok [] := fun f => by cases f <;> rfl
        rw [this] at e
        simp only [List.append_nil] at e
        exact ⟨s, _, _, _, _, _, _, e, rfl⟩)
    (m := data.length) (Γ := [some (LI data), some (.ref 0), some (.int (0 : Nat)), some (.int 0), some (.int (0 : Nat)), none, none, none]) (S := [some (.lst, [])]) ⟨[], 0, data.length, 0, 0, _, _, _, rfl, rfl, by omega, rfl, by simp, by simp, by
      simp only [List.drop_zero, List.isEmpty_nil]
      cases rs data.length data 0 0 true <;> simp⟩ (by omega)
  rcases key with ⟨s, i, line, tot, x5, x6, x7, e1, e2⟩ | ⟨k, e1, e2⟩
  · rw [e1]
    have er : resP [some (.lst, s.map pairT)] (.ref 0) = .ok (.con .own .lst (s.map pairT)) := resP_ref rfl (cleans_pairs s)
    simp only [LI] at e2
    simp [body_read_stretches, szl] at e2 ⊢
    rw [e2]
    simp [srR, r3_read_stretches, er]
  · rw [e1]
    obtain ⟨Γ', S', e2⟩ := e2.out
    simp only [LI] at e2
    simp [body_read_stretches, szl] at e2 ⊢
    rw [e2]
    simp [srR, cleans, clean]
/-- one stretch looked at by the law -/
theorem lw_turn {data : List Int} {i tot : Nat} {line : Int} {first : Bool} {x5 x6 x7 : Option PV} (hi : i ≤ data.length) (hz : data.length < 100000000) :
    (∃ o m k y5 y6 y7, rs1 (data.drop i) line tot first = .ok o m k ∧ l5_law_wrong [some (LI data), some (.int i), some (.int line), some (.int tot), some (.bl first), x5, x6, x7] [] =
      .nx [some (LI data), some (.int (i + k : Nat)), some (.int o), some (.int (tot + m : Nat)), some (.bl false), y5, y6, y7] []) ∨
    (∃ k, rs1 (data.drop i) line tot first = .bad k ∧ l5_law_wrong [some (LI data), some (.int i), some (.int line), some (.int tot), some (.bl first), x5, x6, x7] [] = .rt (.int (i + k : Nat)) []) := by
  have ll := fun S => lendLI S data
  have u1 := number_gen data i hi hz
  unfold rs1
  cases e1 : un true (data.drop i) with
  | bad k =>
    rw [e1] at u1
    refine Or.inr ⟨k, rfl, ?_⟩
    simp only [lnR, LI] at u1 ll
    simp [-Int.natCast_add, l5_law_wrong, ll, u1]
  | ok m k =>
    rw [e1] at u1
    have hk := un_pos e1
    simp only [List.length_drop] at hk
    dsimp only
    have e9 : (tot : Int) + (m : Int) + 1 = ((tot + (m + 1) : Nat) : Int) := by omega
    have m0 : ¬ (m : Int) < 0 := by omega
    by_cases c : 10000 < tot + m + 1
    · rw [if_pos c]
      refine Or.inr ⟨k - 1, rfl, ?_⟩
      have e2 : ((i + k : Nat) : Int) - 1 = (i + (k - 1) : Nat) := by omega
      simp only [lnR, LI] at u1 ll
      simp [-Int.natCast_add, l5_law_wrong, r4_law_wrong, ll, u1, m0, e9, e2, show (10000 : Int) < (tot + (m + 1) : Nat) by omega]
    · rw [if_neg c]
      have u2 := number_gen data (i + k) (by omega) hz
      rw [List.drop_drop]
      have c1 : ¬ (10000 : Int) < (tot + (m + 1) : Nat) := by omega
      cases e2 : un true (data.drop (i + k)) with
      | bad j =>
        rw [e2] at u2
        refine Or.inr ⟨k + j, rfl, ?_⟩
        have a1 : i + (k + j) = i + k + j := by omega
        simp only [lnR, LI] at u1 u2 ll
        simp [-Int.natCast_add, l5_law_wrong, r4_law_wrong, r3_law_wrong, ll, u1, u2, m0, e9, c1, a1]
      | ok st j =>
        rw [e2] at u2
        have hj := un_pos e2
        simp only [List.length_drop] at hj
        dsimp only
        have st0 : ¬ (st : Int) < 0 := by omega
        have a2 : ((i + k + j : Nat) : Int) - 1 = (i + (k + j - 1) : Nat) := by omega
        have a1 : i + (k + j) = i + k + j := by omega
        simp only [lnR, LI] at u1 u2 ll
        -- the change
        have step : l5_law_wrong [some (.con .own .lst (data.map PV.int)), some (.int i), some (.int line), some (.int tot), some (.bl first), x5, x6, x7] [] = r1_law_wrong [some (.con .own .lst (data.map PV.int)), some (.int (i + k + j : Nat)), some (.int line), some (.int (tot + (m + 1) : Nat)), some (.bl first), some (.int m), some (.int st), some (.int (unz st))] [] := by
          by_cases hodd : st % 2 = 1
          · have o1 : (st : Int) % 2 = 1 := by omega
            have o2 : -((st : Int) / 2) - 1 = unz st := by unfold unz; rw [if_pos hodd]; omega
            simp [-Int.natCast_add, l5_law_wrong, r4_law_wrong, r3_law_wrong, r2_law_wrong, ll, u1, u2, m0, st0, e9, c1, CDiv, o1, o2]
          · have o1 : ¬ (st : Int) % 2 = 1 := by omega
            have o2 : (st : Int) / 2 = unz st := by unfold unz; rw [if_neg hodd]; omega
            simp [-Int.natCast_add, l5_law_wrong, r4_law_wrong, r3_law_wrong, r2_law_wrong, ll, u1, u2, m0, st0, e9, c1, CDiv, o1, o2]
        rw [step]
        by_cases b0 : 0 ≤ line + unz st ∧ line + unz st ≤ 1000000
        · by_cases b1 : first = false ∧ unz st = 0
          · rw [if_pos (Or.inr b1)]
            obtain ⟨rfl, hu⟩ := b1
            refine Or.inr ⟨k + j - 1, rfl, ?_⟩
            rw [hu] at b0 ⊢
            simp [-Int.natCast_add, r1_law_wrong, CPow, a2, show 0 ≤ line by omega, show line ≤ 1000000 by omega]
          · rw [if_neg (by rintro (h | h); exact h b0; exact b1 h)]
            refine Or.inl ⟨line + unz st, m + 1, k + j, some (.int m), some (.int st), some (.int (unz st)), rfl, ?_⟩
            rw [a1]
            cases first with
            | true =>
              simp [-Int.natCast_add, r1_law_wrong, r0_law_wrong, CPow, b0.1, b0.2]
              by_cases hu : unz st = 0 <;> simp [hu]
            | false =>
              have hne : ¬ unz st = 0 := fun q => b1 ⟨rfl, q⟩
              simp [-Int.natCast_add, r1_law_wrong, r0_law_wrong, CPow, b0.1, b0.2, hne]
        · rw [if_pos (Or.inl b0)]
          refine Or.inr ⟨k + j - 1, rfl, ?_⟩
          by_cases b3 : 0 ≤ line + unz st
          · have b4 : ¬ line + unz st ≤ 1000000 := fun q => b0 ⟨b3, q⟩
            simp [-Int.natCast_add, r1_law_wrong, CPow, b3, b4, a2]
          · simp [-Int.natCast_add, r1_law_wrong, CPow, b3, a2]
def wrS : SR → Int
  | .ok _ => -1
  | .bad k => k
theorem wrong_gen (data : List Int) (hz : data.length < 1000000) : f_law_wrong [LI data] = .ok (.int (wrS (rs data.length data 0 0 true))) := by
  unfold f_law_wrong
  rw [runP_eq (np := 1) rfl]
  have key := sWhl_ind2 (c := bE (eOp ltF (eV 1) (eCall lenF (aCons (eV 0) aNil)))) (t := l5_law_wrong)
    (fun m Γ S => ∃ (i f tot : Nat) (line : Int) (first : Bool) (x5 x6 x7 : Option PV), Γ = [some (LI data), some (.int i), some (.int line), some (.int tot), some (.bl first), x5, x6, x7] ∧ S = [] ∧ i ≤ data.length ∧ m = data.length - i ∧ (data.drop i).length ≤ f ∧
      wrS (rs data.length data 0 0 true) = (match rs f (data.drop i) line tot first with | .ok _ => -1 | .bad k => ((i + k : Nat) : Int)))
    (fun r => rupK (seqK r6_law_wrong r) = .ok (.int (wrS (rs data.length data 0 0 true))))
    (by
      rintro m Γ S ⟨i, f, tot, line, first, x5, x6, x7, rfl, rfl, hi, rfl, hf, e⟩
      by_cases hd : i < data.length
      · refine Or.inr ⟨[], by simp [hd], ?_⟩
        simp only [List.length_drop] at hf
        obtain ⟨g, rfl⟩ : ∃ g, f = g + 1 := ⟨f - 1, by omega⟩
        rw [rs_succ _ _ _ _ _ (by intro q; have := congrArg List.length q; simp at this; omega)] at e
        rcases lw_turn (data := data) (i := i) (tot := tot) (line := line) (first := first) (x5 := x5) (x6 := x6) (x7 := x7) hi (by omega) with ⟨o, n, k, y5, y6, y7, e1, e2⟩ | ⟨k, e1, e2⟩
        · rw [e2]
          rw [e1] at e
          obtain ⟨k1, k2, _⟩ := rs1_pos e1
          simp only [List.length_drop] at k2
          refine ⟨data.length - (i + k), by omega, i + k, g, tot + n, o, false, y5, y6, y7, rfl, rfl, by omega, rfl, by simp; omega, ?_⟩
          rw [e]
          dsimp only
          rw [List.drop_drop]
          cases rs g (data.drop (i + k)) o (tot + n) false with
          | ok r => rfl
          | bad j => simp only; congr 1; omega
        · rw [e1] at e
          rw [e2, Trn_rt, e]
          simp
      · refine Or.inl ⟨[], by simp [hd], ?_⟩
        rw [List.drop_eq_nil_of_le (by omega)] at e
        have : ∀ f, rs f [] line tot first = .ok [] := fun f => by cases f <;> rfl
        rw [this] at e
        rw [e]
        simp [r6_law_wrong])
    (m := data.length) (Γ := [some (LI data), some (.int (0 : Nat)), some (.int 0), some (.int (0 : Nat)), some (.bl true), none, none, none]) (S := []) ⟨0, data.length, 0, 0, true, _, _, _, rfl, rfl, by omega, rfl, by simp, by
      simp only [List.drop_zero]
      cases rs data.length data 0 0 true <;> simp [wrS]⟩ (by omega)
  simp only [body_law_wrong, sSeq_eq, sSet_eq, eC_eq, setK_ok, seqK_nx, List.length_cons, List.length_nil, List.map_cons, List.map_nil, List.replicate, List.cons_append, List.nil_append, List.set_cons_succ, List.set_cons_zero]
  exact key
end Law

namespace Law
open PySem PySem.Spec PyProof.Rows L2 Pv
/-! law_like: the same data -/
mutual
def same : PV → PV → Bool
  | .non, .non => true
  | .bl a, .bl b => decide (a = b)
  | .int a, .int b => decide (a = b)
  | .str a, .str b => decide (a = b)
  | .con _ .tup xs, .con _ .tup ys => sames xs ys
  | .con _ .lst xs, .con _ .lst ys => sames xs ys
  | _, _ => false
def sames : List PV → List PV → Bool
  | [], [] => true
  | x :: xs, y :: ys => same x y && sames xs ys
  | _, _ => false
end
mutual
/-- data of depth n at most -/
def dat : Nat → PV → Prop
  | _, .non => True
  | _, .bl _ => True
  | _, .int _ => True
  | _, .str _ => True
  | n + 1, .con m k xs => (k = .tup ∨ k = .lst) ∧ m ≠ .lent ∧ xs.length < 1000000000 ∧ dats n xs
  | _, _ => False
def dats : Nat → List PV → Prop
  | _, [] => True
  | n, x :: xs => dat n x ∧ dats n xs
end
mutual
theorem dat_clean : ∀ {n : Nat} {p : PV}, dat n p → clean p = true
  | _, .non, _ => rfl
  | _, .bl _, _ => rfl
  | _, .int _, _ => rfl
  | _, .str _, _ => rfl
  | n + 1, .con m k xs, h => by
    simp only [dat] at h
    have := dats_clean h.2.2.2
    cases m <;> simp_all [clean]
  | 0, .con m k xs, h => by simp [dat] at h
  | n, .ref _, h => by cases n <;> simp [dat] at h
  | n, .fn _, h => by cases n <;> simp [dat] at h
  | n, .ty _, h => by cases n <;> simp [dat] at h
theorem dats_clean : ∀ {n : Nat} {ps : List PV}, dats n ps → cleans ps = true
  | _, [], _ => rfl
  | n, x :: xs, h => by
    simp only [dats] at h
    simp only [cleans, dat_clean h.1, dats_clean h.2, Bool.and_self]
end
theorem dats_get {n : Nat} : ∀ {xs : List PV} {i : Nat} {p : PV}, dats n xs → xs[i]? = some p → dat n p
  | [], _, _, _, e => by simp at e
  | x :: xs, i, p, h, e => by
    simp only [dats] at h
    cases i with
    | zero => simp at e; subst e; exact h.1
    | succ i => exact dats_get h.2 (by simpa using e)
theorem sames_len : ∀ {xs ys : List PV}, sames xs ys = true → xs.length = ys.length
  | [], [], _ => rfl
  | [], _ :: _, h => by simp [sames] at h
  | _ :: _, [], h => by simp [sames] at h
  | x :: xs, y :: ys, h => by
    simp only [sames, Bool.and_eq_true] at h
    simp [sames_len h.2]
theorem sames_drop {xs ys : List PV} {i : Nat} {x y : PV} (hx : xs[i]? = some x) (hy : ys[i]? = some y) : sames (xs.drop i) (ys.drop i) = (same x y && sames (xs.drop (i + 1)) (ys.drop (i + 1))) := by
  obtain ⟨a, e1⟩ := List.getElem?_eq_some_iff.mp hx
  obtain ⟨b, e2⟩ := List.getElem?_eq_some_iff.mp hy
  rw [List.drop_eq_getElem_cons a, List.drop_eq_getElem_cons b, e1, e2]
  rfl
end Law

namespace Law
open PySem PySem.Spec PyProof.Rows L2 Pv
theorem like_loop {n : Nat} (ih : ∀ p q, dat n p → dat n q → f_law_like (n + 1) [p, q] = .ok (.bl (same p q))) {m m' : Md} {k : Kd} {xs ys : List PV} (hk : k = .tup ∨ k = .lst) (dx : dats n xs) (dy : dats n ys) (hl : xs.length = ys.length) :
    (sames xs ys = true ∧ ∃ x, forL (sTurn (gN 2) (l0_law_like (f_law_like (n + 1)))) (intsF 0 ys.length) [some (.con m k xs), some (.con m' k ys), none] [] = .nx [some (.con m k xs), some (.con m' k ys), x] []) ∨
    (sames xs ys = false ∧ forL (sTurn (gN 2) (l0_law_like (f_law_like (n + 1)))) (intsF 0 ys.length) [some (.con m k xs), some (.con m' k ys), none] [] = .rt (.bl false) []) := by
  refine forR_ind (fun i Γ S => S = [] ∧ ∃ x, Γ = [some (.con m k xs), some (.con m' k ys), x] ∧ sames xs ys = sames (xs.drop i) (ys.drop i))
    (fun r => (sames xs ys = true ∧ ∃ x, r = .nx [some (.con m k xs), some (.con m' k ys), x] []) ∨ (sames xs ys = false ∧ r = .rt (.bl false) [])) ?_ ?_ ⟨rfl, none, rfl, rfl⟩
  · rintro i Γ S hi ⟨rfl, x, rfl, e⟩
    have hx : xs[i]? = some xs[i] := List.getElem?_eq_getElem _
    have hy : ys[i]? = some ys[i] := List.getElem?_eq_getElem _
    rw [sames_drop hx hy] at e
    have q := ih _ _ (dats_get dx hx) (dats_get dy hy)
    have c1 := lend_clean (S := []) (dat_clean (dats_get dx hx))
    have c2 := lend_clean (S := []) (dat_clean (dats_get dy hy))
    have a1 : ixB [] (.con m k xs) (.int (i : Int)) = some xs[i] := by rcases hk with rfl | rfl <;> simp only [ixB_lst, ixB_tup, atI_nat] <;> exact hx
    have a2 : ixB [] (.con m' k ys) (.int (i : Int)) = some ys[i] := by rcases hk with rfl | rfl <;> simp only [ixB_lst, ixB_tup, atI_nat] <;> exact hy
    cases h : same xs[i] ys[i] with
    | true =>
      rw [h] at e q
      simp [l0_law_like, a1, a2, c1, c2, q, e]
    | false =>
      rw [h] at e q
      simp [l0_law_like, a1, a2, c1, c2, q, e]
  · rintro Γ S ⟨rfl, x, rfl, e⟩
    rw [List.drop_eq_nil_of_le (by omega), List.drop_eq_nil_of_le (Nat.le_refl _)] at e
    exact Or.inl ⟨e, x, rfl⟩
theorem like_ok : ∀ (n : Nat) (p q : PV), dat n p → dat n q → f_law_like (n + 1) [p, q] = .ok (.bl (same p q)) := by
  intro n
  induction n with
  | zero =>
    intro p q hp hq
    simp only [f_law_like]
    rw [runP_eq (np := 2) rfl]

    cases q <;> cases p <;> simp [dat] at hp hq <;> simp [body_law_like, r6_law_like, r5_law_like, r4_law_like, same, isNP]
  | succ n ih =>
    intro p q hp hq
    rw [f_law_like]
    rw [runP_eq (np := 2) rfl]
    have sc := @like_loop n ih
    cases q with
    | con m' k' ys =>
      simp only [dat] at hq
      obtain ⟨hk, hm, hl, dy⟩ := hq
      have one : ∀ (k : Kd) (m : Md) (xs : List PV), (k = .tup ∨ k = .lst) → dats n xs → xs.length < 1000000000 → xs.length ≠ ys.length → sames xs ys = false := fun k m xs _ _ _ h => by
        cases e : sames xs ys with
        | false => rfl
        | true => exact absurd (sames_len e) h
      rcases hk with rfl | rfl
      · cases p with
        | con m k xs =>
          simp only [dat] at hp
          obtain ⟨hk, hm1, hl1, dx⟩ := hp
          rcases hk with rfl | rfl
          · by_cases hlen : xs.length = ys.length
            · have r1 := r1K_ok (n := (ys.length : Int)) (S := []) ⟨by omega, by omega⟩
              simp only [Int.toNat_natCast] at r1
              rcases sc (m := m) (m' := m') (k := .tup) (Or.inl rfl) dx dy hlen with ⟨e, x, e2⟩ | ⟨e, e2⟩
              · simp [body_law_like, r6_law_like, r5_law_like, r4_law_like, r3_law_like, r2_law_like, r1_law_like, same, isNP, hlen, r1, e, e2]
              · simp [body_law_like, r6_law_like, r5_law_like, r4_law_like, r3_law_like, r2_law_like, r1_law_like, same, isNP, hlen, r1, e, e2]
            · have e := one .tup m xs (Or.inl rfl) dx hl1 hlen
              simp [body_law_like, r6_law_like, r5_law_like, r4_law_like, r3_law_like, r2_law_like, r1_law_like, same, isNP, hlen, e, show ¬ ((xs.length : Int) = ys.length) from by omega]
          · simp [body_law_like, r6_law_like, r5_law_like, r4_law_like, r3_law_like, r2_law_like, r1_law_like, same, isNP]
        | ref _ => simp [dat] at hp
        | fn _ => simp [dat] at hp
        | ty _ => simp [dat] at hp
        | _ => simp [body_law_like, r6_law_like, r5_law_like, r4_law_like, r3_law_like, r2_law_like, r1_law_like, same, isNP]
      · cases p with
        | con m k xs =>
          simp only [dat] at hp
          obtain ⟨hk, hm1, hl1, dx⟩ := hp
          rcases hk with rfl | rfl
          · simp [body_law_like, r6_law_like, r5_law_like, r4_law_like, r3_law_like, r2_law_like, r1_law_like, same, isNP]
          · by_cases hlen : xs.length = ys.length
            · have r1 := r1K_ok (n := (ys.length : Int)) (S := []) ⟨by omega, by omega⟩
              simp only [Int.toNat_natCast] at r1
              rcases sc (m := m) (m' := m') (k := .lst) (Or.inr rfl) dx dy hlen with ⟨e, x, e2⟩ | ⟨e, e2⟩
              · simp [body_law_like, r6_law_like, r5_law_like, r4_law_like, r3_law_like, r2_law_like, r1_law_like, same, isNP, hlen, r1, e, e2]
              · simp [body_law_like, r6_law_like, r5_law_like, r4_law_like, r3_law_like, r2_law_like, r1_law_like, same, isNP, hlen, r1, e, e2]
            · have e := one .lst m xs (Or.inr rfl) dx hl1 hlen
              simp [body_law_like, r6_law_like, r5_law_like, r4_law_like, r3_law_like, r2_law_like, r1_law_like, same, isNP, hlen, e, show ¬ ((xs.length : Int) = ys.length) from by omega]
        | ref _ => simp [dat] at hp
        | fn _ => simp [dat] at hp
        | ty _ => simp [dat] at hp
        | _ => simp [body_law_like, r6_law_like, r5_law_like, r4_law_like, r3_law_like, r2_law_like, r1_law_like, same, isNP]
    | ref _ => simp [dat] at hq
    | fn _ => simp [dat] at hq
    | ty _ => simp [dat] at hq
    | _ =>
      cases p with
      | con m k xs =>
        simp only [dat] at hp
        obtain ⟨hk, _⟩ := hp
        rcases hk with rfl | rfl <;> simp [body_law_like, r6_law_like, r5_law_like, r4_law_like, same, isNP]
      | ref _ => simp [dat] at hp
      | fn _ => simp [dat] at hp
      | ty _ => simp [dat] at hp
      | _ => simp [body_law_like, r6_law_like, r5_law_like, r4_law_like, same, isNP]
end Law

namespace Law
open PySem PySem.Spec PyProof.Rows L2 Pv
/-! == of data -/
theorem beq_str (a b : Str) : (a == b) = decide (a = b) := by
  by_cases e : a = b
  · subst e; simp
  · have : (a == b) = false := Bool.eq_false_iff.mpr fun h => e (eq_of_beq h)
    simp [e, this]
mutual
def pd : PV → PyData
  | .bl b => .bool b
  | .int i => .int i
  | .str s => .str s
  | .con _ .tup xs => .tuple (pds xs)
  | .con _ .lst xs => .list (pds xs)
  | _ => .none
def pds : List PV → List PyData
  | [] => []
  | x :: xs => pd x :: pds xs
end
mutual
theorem toPD_dat {S : Sto} : ∀ (n : Nat) (p : PV) (k : Nat), dat n p → n < k → toPD k S p = some (pd p)
  | n, .non, k, _, h => by cases k <;> first | omega | rfl
  | n, .bl _, k, _, h => by cases k <;> first | omega | rfl
  | n, .int _, k, _, h => by cases k <;> first | omega | rfl
  | n, .str _, k, _, h => by cases k <;> first | omega | rfl
  | 0, .con _ _ _, k, h, _ => by simp [dat] at h
  | n, .ref _, k, h, _ => by cases n <;> simp [dat] at h
  | n, .fn _, k, h, _ => by cases n <;> simp [dat] at h
  | n, .ty _, k, h, _ => by cases n <;> simp [dat] at h
  | n + 1, .con m kd xs, k, h, hk => by
    obtain ⟨j, rfl⟩ : ∃ j, k = j + 1 := ⟨k - 1, by omega⟩
    simp only [dat] at h
    have := toPDs_dat (S := S) n xs j h.2.2.2 (by omega)
    rcases h.1 with rfl | rfl <;> simp [toPD, this, pd]
theorem toPDs_dat {S : Sto} : ∀ (n : Nat) (ps : List PV) (k : Nat), dats n ps → n < k → ps.mapM (toPD k S) = some (pds ps)
  | n, [], k, _, _ => rfl
  | n, x :: xs, k, h, hk => by
    simp only [dats] at h
    simp [List.mapM_cons, toPD_dat (S := S) n x k h.1 hk, toPDs_dat (S := S) n xs k h.2 hk, pds]
end
def eqq (p q : PV) : Bool := PyData.eqv (pd p) (pd q)
theorem eqB_dat {S : Sto} {n m : Nat} {p q : PV} (h : dat n p) (k : dat m q) (hn : n ≤ 8) (hm : m ≤ 8) : eqB S p q = some (eqq p q) := by
  have e1 := toPD_dat (S := S) n p 9 h (by omega)
  have e2 := toPD_dat (S := S) m q 9 k (by omega)
  unfold eqB eqq
  split
  · simp [pd, PyData.eqv, Bool.beq_eq_decide_eq]
  · simp [pd, PyData.eqv, beq_str]
  · rfl
  · simp [pd, PyData.eqv, Bool.beq_eq_decide_eq]
  · simp only [e1, e2]
theorem eqF_dat {S : Sto} {n m : Nat} {p q : PV} (h : dat n p) (k : dat m q) (hn : n ≤ 8) (hm : m ≤ 8) : eqF p q S = some (.bl (eqq p q), S) := by
  unfold eqF; rw [eqB_dat h k hn hm]; rfl
theorem neF_dat {S : Sto} {n m : Nat} {p q : PV} (h : dat n p) (k : dat m q) (hn : n ≤ 8) (hm : m ≤ 8) : neF p q S = some (.bl (!eqq p q), S) := by
  unfold neF; rw [eqB_dat h k hn hm]; rfl
mutual
/-- the same data are equal -/
theorem eqq_same : ∀ {p q : PV}, same p q = true → eqq p q = true
  | .non, q, h => by cases q <;> simp [same] at h; rfl
  | .bl a, q, h => by
    cases q <;> simp [same] at h
    subst h; simp [eqq, pd, PyData.eqv]
  | .int a, q, h => by
    cases q <;> simp [same] at h
    subst h; simp [eqq, pd, PyData.eqv]
  | .str a, q, h => by
    cases q <;> simp [same] at h
    subst h; simp [eqq, pd, PyData.eqv]
  | .con m k xs, q, h => by
    cases q with
    | con m' k' ys =>
      cases k <;> cases k' <;> simp [same] at h
      · have := eqqs_same h; simpa [eqq, pd, PyData.eqv] using this
      · have := eqqs_same h; simpa [eqq, pd, PyData.eqv] using this
    | _ => cases k <;> simp [same] at h
  | .ref _, q, h => by cases q <;> simp [same] at h
  | .fn _, q, h => by cases q <;> simp [same] at h
  | .ty _, q, h => by cases q <;> simp [same] at h
theorem eqqs_same : ∀ {xs ys : List PV}, sames xs ys = true → PyData.eqvAll (pds xs) (pds ys) = true
  | [], [], _ => rfl
  | [], _ :: _, h => by simp [sames] at h
  | _ :: _, [], h => by simp [sames] at h
  | x :: xs, y :: ys, h => by
    simp only [sames, Bool.and_eq_true] at h
    have h1 := eqq_same h.1
    have h2 := eqqs_same h.2
    unfold eqq at h1
    simp [pds, PyData.eqvAll, h1, h2]
end
mutual
/-- without truth values -/
def nb : PV → Bool
  | .bl _ => false
  | .con _ _ xs => nbs xs
  | _ => true
def nbs : List PV → Bool
  | [] => true
  | x :: xs => nb x && nbs xs
end
mutual
theorem same_eqq : ∀ {n m : Nat} {p q : PV}, dat n p → dat m q → nb p = true → nb q = true → eqq p q = true → same p q = true
  | n, m, .non, q, hp, hq, _, bq, h => by
    cases q with
    | con _ k _ => cases m <;> simp [dat] at hq; rcases hq.1 with rfl | rfl <;> simp [eqq, pd, PyData.eqv] at h
    | ref _ => cases m <;> simp [dat] at hq
    | fn _ => cases m <;> simp [dat] at hq
    | ty _ => cases m <;> simp [dat] at hq
    | _ => simp_all [eqq, pd, PyData.eqv, same, nb]
  | n, m, .int a, q, hp, hq, _, bq, h => by
    cases q with
    | con _ k _ => cases m <;> simp [dat] at hq; rcases hq.1 with rfl | rfl <;> simp [eqq, pd, PyData.eqv] at h
    | ref _ => cases m <;> simp [dat] at hq
    | fn _ => cases m <;> simp [dat] at hq
    | ty _ => cases m <;> simp [dat] at hq
    | _ => simp_all [eqq, pd, PyData.eqv, same, nb]
  | n, m, .str a, q, hp, hq, _, bq, h => by
    cases q with
    | con _ k _ => cases m <;> simp [dat] at hq; rcases hq.1 with rfl | rfl <;> simp [eqq, pd, PyData.eqv] at h
    | ref _ => cases m <;> simp [dat] at hq
    | fn _ => cases m <;> simp [dat] at hq
    | ty _ => cases m <;> simp [dat] at hq
    | _ => simp_all [eqq, pd, PyData.eqv, same, nb]
  | n, m, .bl a, q, hp, hq, bp, bq, h => by simp [nb] at bp
  | n, m, .ref _, q, hp, hq, bp, bq, h => by cases n <;> simp [dat] at hp
  | n, m, .fn _, q, hp, hq, bp, bq, h => by cases n <;> simp [dat] at hp
  | n, m, .ty _, q, hp, hq, bp, bq, h => by cases n <;> simp [dat] at hp
  | 0, m, .con _ _ _, q, hp, hq, bp, bq, h => by simp [dat] at hp
  | n + 1, m, .con md k xs, q, hp, hq, bp, bq, h => by
    simp only [dat] at hp
    simp only [nb] at bp
    cases q with
    | con md' k' ys =>
      cases m with
      | zero => simp [dat] at hq
      | succ m =>
        simp only [dat] at hq
        simp only [nb] at bq
        rcases hp.1 with rfl | rfl <;> rcases hq.1 with rfl | rfl
        · simp only [eqq, pd, PyData.eqv] at h
          simp only [same]
          exact sames_eqq hp.2.2.2 hq.2.2.2 bp bq h
        · simp [eqq, pd, PyData.eqv] at h
        · simp [eqq, pd, PyData.eqv] at h
        · simp only [eqq, pd, PyData.eqv] at h
          simp only [same]
          exact sames_eqq hp.2.2.2 hq.2.2.2 bp bq h
    | ref _ => cases m <;> simp [dat] at hq
    | fn _ => cases m <;> simp [dat] at hq
    | ty _ => cases m <;> simp [dat] at hq
    | _ => rcases hp.1 with rfl | rfl <;> simp [eqq, pd, PyData.eqv] at h
theorem sames_eqq : ∀ {n m : Nat} {xs ys : List PV}, dats n xs → dats m ys → nbs xs = true → nbs ys = true → PyData.eqvAll (pds xs) (pds ys) = true → sames xs ys = true
  | n, m, [], [], _, _, _, _, _ => rfl
  | n, m, [], _ :: _, _, _, _, _, h => by simp [pds, PyData.eqvAll] at h
  | n, m, _ :: _, [], _, _, _, _, h => by simp [pds, PyData.eqvAll] at h
  | n, m, x :: xs, y :: ys, hp, hq, bp, bq, h => by
    simp only [dats] at hp hq
    simp only [nbs, Bool.and_eq_true] at bp bq
    simp only [pds, PyData.eqvAll, Bool.and_eq_true] at h
    simp only [sames, Bool.and_eq_true]
    exact ⟨same_eqq hp.1 hq.1 bp.1 bq.1 h.1, sames_eqq hp.2 hq.2 bp.2 bq.2 h.2⟩
end
theorem eqq_nb {n m : Nat} {p q : PV} (hp : dat n p) (hq : dat m q) (bp : nb p = true) (bq : nb q = true) : eqq p q = same p q := by
  cases h : same p q with
  | true => exact eqq_same h
  | false =>
    cases k : eqq p q with
    | false => rfl
    | true => rw [same_eqq hp hq bp bq k] at h; cases h
mutual
theorem same_refl : ∀ {n : Nat} {p : PV}, dat n p → same p p = true
  | _, .non, _ => rfl
  | _, .bl _, _ => by simp [same]
  | _, .int _, _ => by simp [same]
  | _, .str _, _ => by simp [same]
  | n + 1, .con m k xs, h => by
    simp only [dat] at h
    rcases h.1 with rfl | rfl <;> (simp only [same]; exact sames_refl h.2.2.2)
  | 0, .con m k xs, h => by simp [dat] at h
  | n, .ref _, h => by cases n <;> simp [dat] at h
  | n, .fn _, h => by cases n <;> simp [dat] at h
  | n, .ty _, h => by cases n <;> simp [dat] at h
theorem sames_refl : ∀ {n : Nat} {xs : List PV}, dats n xs → sames xs xs = true
  | _, [], _ => rfl
  | n, x :: xs, h => by
    simp only [dats] at h
    simp only [sames, same_refl h.1, sames_refl h.2, Bool.and_self]
end
theorem dats_ints (n : Nat) (l : List Int) : dats n (l.map PV.int) := by
  induction l with
  | nil => simp [dats]
  | cons a l ih => simp [dats, dat, ih]
theorem dat_LI (l : List Int) (m : Md) (hm : m ≠ .lent) (k : Kd) (hk : k = .tup ∨ k = .lst) (h : l.length < 1000000000) : dat 1 (.con m k (l.map PV.int)) := by
  simp only [dat, List.length_map]
  exact ⟨hk, hm, h, dats_ints 0 l⟩
theorem dat_LIn (n : Nat) (l : List Int) (m : Md) (hm : m ≠ .lent) (k : Kd) (hk : k = .tup ∨ k = .lst) (h : l.length < 1000000000) : dat (n + 1) (.con m k (l.map PV.int)) := by
  simp only [dat, List.length_map]
  exact ⟨hk, hm, h, dats_ints n l⟩
end Law

namespace Law
open PySem PySem.Spec PyProof.Rows L2 Pv
/-! ### the draws -/
abbrev drL (ns : List Int) (a : Nat) (h s : Int) : List PV := [.con .own .lst (ns.map PV.int), .int a, .int h, .int s]
abbrev drO (ns : List Int) (a : Nat) (h s : Int) : Option (Kd × List PV) := some (.lst, drL ns a h s)
theorem draw_r3 (S : Sto) (n : Nat) (ns : List Int) (m : Int) (x : Option PV) (a : Nat) (h s : Int) (hl : n < S.length) (h0 : 0 ≤ h) (hm : 0 < m) (hm2 : m < 1073741824) :
    ∃ r a' h' s', ruwK (r3_law_draw [some (.ref n), some (.int m), none, x] (S.set n (drO ns a h s))) = .ok (.int r) (S.set n (drO ns a' h' s')) ∧ 0 ≤ r ∧ r < m ∧ 0 ≤ h' := by
  by_cases hp : 0 < h
  · refine ⟨h % m, a, h / m, s, ?_, Int.emod_nonneg _ (by omega), Int.emod_lt_of_pos _ hm, Int.ediv_nonneg h0 (by omega)⟩
    simp [r3_law_draw, i1_law_draw, r2_law_draw, hl, atI, ixN, hp, hm, CDiv, hm2]
  · refine ⟨(s * 16807) % 2147483629 % m, a, h, s, ?_, Int.emod_nonneg _ (by omega), Int.emod_lt_of_pos _ hm, h0⟩
    simp [r3_law_draw, i1_law_draw, r2_law_draw, hl, atI, ixN, hp, hm, CMul]
theorem draw_ok (S : Sto) (n : Nat) (ns : List Int) (a : Nat) (h s m : Int) (hn : S[n]? = some (drO ns a h s)) (h0 : 0 ≤ h) (hm : 0 < m) (hm2 : m < 1073741824) :
    ∃ r a' h' s', f_law_draw [.ref n, .int m] S = .ok (.int r) (S.set n (drO ns a' h' s')) ∧ 0 ≤ r ∧ r < m ∧ 0 ≤ h' := by
  have hl : n < S.length := (List.getElem?_eq_some_iff.mp hn).1
  have hg : S[n]'hl = drO ns a h s := (List.getElem?_eq_some_iff.mp hn).2
  have go : ∃ x a1 h1 s1, 0 ≤ h1 ∧ f_law_draw [.ref n, .int m] S = ruwK (r3_law_draw [some (.ref n), some (.int m), none, x] (S.set n (drO ns a1 h1 s1))) := by
    unfold f_law_draw
    rw [runW_eq (np := 2) rfl]
    unfold body_law_draw
    by_cases hz : h = 0
    · subst hz
      by_cases ha : a < ns.length
      · by_cases hb : 1000000000000000000 ≤ ns[a]
        · refine ⟨some (.int ns[a]), a + 1, ns[a], s, by omega, ?_⟩
          simp [i0_law_draw, hg, hl, atI, ixN, ha, hb, CPow, drO, drL]
        · refine ⟨some (.int ns[a]), a + 1, 0, (s * 48271 + ns[a] * 69621 + 11) % 2147483647, by omega, ?_⟩
          simp [i0_law_draw, hg, hl, atI, ixN, ha, hb, CPow, CMul, drO, drL]
      · refine ⟨none, a, 0, (s * 48271 + 7) % 2147483647, by omega, ?_⟩
        simp [i0_law_draw, hg, hl, atI, ixN, ha, CPow, CMul]
    · refine ⟨none, a, h, s, h0, ?_⟩
      have e : S.set n (drO ns a h s) = S := by
        apply List.ext_getElem?
        intro i
        by_cases q : n = i
        · subst q; rw [List.getElem?_set_self hl, hn]
        · rw [List.getElem?_set_ne q]
      rw [e]
      simp [hg, hl, atI, ixN, hz]
  obtain ⟨x, a1, h1, s1, q1, q2⟩ := go
  rw [q2]
  exact draw_r3 S n ns m x a1 h1 s1 hl q1 hm hm2
end Law

namespace Law
open PySem PySem.Spec PyProof.Rows L2 Pv
/-- the draws stand at n -/
def DR (n : Nat) (ns : List Int) (S : Sto) : Prop := ∃ a h s, S[n]? = some (drO ns a h s) ∧ 0 ≤ h
/-- nothing but the draws changed -/
def Fr (n : Nat) (S S' : Sto) : Prop := S'.length = S.length ∧ ∀ i, i ≠ n → S'[i]? = S[i]?
theorem Fr.refl {n : Nat} {S : Sto} : Fr n S S := ⟨rfl, fun _ _ => rfl⟩
theorem Fr.trans {n : Nat} {S S1 S2 : Sto} (h : Fr n S S1) (h2 : Fr n S1 S2) : Fr n S S2 := ⟨h2.1.trans h.1, fun i q => (h2.2 i q).trans (h.2 i q)⟩
theorem draw {S : Sto} {n : Nat} {ns : List Int} (d : DR n ns S) (m : Int) (hm : 0 < m) (hm2 : m < 1073741824) :
    ∃ r S', f_law_draw [.ref n, .int m] S = .ok (.int r) S' ∧ 0 ≤ r ∧ r < m ∧ DR n ns S' ∧ Fr n S S' := by
  obtain ⟨a, h, s, e, h0⟩ := d
  obtain ⟨r, a', h', s', q, r0, r1, q0⟩ := draw_ok S n ns a h s m e h0 hm hm2
  have hl : n < S.length := (List.getElem?_eq_some_iff.mp e).1
  refine ⟨r, _, q, r0, r1, ⟨a', h', s', List.getElem?_set_self hl, q0⟩, List.length_set, fun i hi => List.getElem?_set_ne (Ne.symm hi)⟩
theorem begin_ok (ns : List Int) (S : Sto) (h : ns.length ≤ 63) : f_law_begin [scr ns] S = .ok (.ref S.length) (S ++ [drO ns 0 0 7]) := by
  unfold f_law_begin
  rw [runW_eq (np := 1) rfl]
  simp [body_law_begin, scr, listF, newP, szl, drO, drL]
end Law

namespace Law
open PySem PySem.Spec PyProof.Rows L2 Pv
/-! Slices of lists of ints. -/
def cutL (l : List Int) (lo hi : Option Int) : List Int := (l.drop (HT.sIx l.length 0 lo)).take (HT.sIx l.length l.length hi - HT.sIx l.length 0 lo)
theorem cutP_map (l : List Int) (lo hi : Option Int) : cutP (l.map PV.int) lo hi = (cutL l lo hi).map PV.int := by
  unfold cutP cutL
  simp [List.map_take, List.map_drop]
theorem sIx_pos (n d : Nat) (a : Int) (h0 : 0 ≤ a) (h1 : a ≤ n) : HT.sIx n d (some a) = a.toNat := by
  show (if a < 0 then (a + (n : Int)).toNat else min a.toNat n) = _
  rw [if_neg (by omega)]; omega
theorem sIx_gt (n d : Nat) (a : Int) (h0 : 0 ≤ a) (h1 : n ≤ a) : HT.sIx n d (some a) = n := by
  show (if a < 0 then (a + (n : Int)).toNat else min a.toNat n) = _
  rw [if_neg (by omega)]; omega
theorem sIx_no (n d : Nat) : HT.sIx n d none = d := rfl
theorem cut_lo (l : List Int) (a : Int) (h0 : 0 ≤ a) (h1 : a ≤ l.length) : cutL l (some a) none = l.drop a.toNat := by
  unfold cutL
  rw [sIx_pos _ _ a h0 h1, sIx_no, List.take_of_length_le (by simp)]
theorem cut_len (l : List Int) (lo hi : Option Int) : (cutL l lo hi).length ≤ l.length := by
  unfold cutL; simp; omega
theorem cut_hi_len (l : List Int) (a : Int) (h0 : 0 ≤ a) (h1 : a ≤ l.length) : (cutL l none (some a)).length = a.toNat := by
  unfold cutL
  rw [sIx_pos _ _ a h0 h1, sIx_no]
  simp; omega
theorem cut_lo_len (l : List Int) (a : Int) (h0 : 0 ≤ a) (h1 : a ≤ l.length) : (cutL l (some a) none).length = l.length - a.toNat := by rw [cut_lo l a h0 h1]; simp
theorem sl_any {S : Sto} {l : List Int} {lo hi : Option Int} : slF false (LI l) lo hi S = some (LI (cutL l lo hi), S) := by
  simp only [LI, slF_lst, cutP_map]; rfl
end Law

namespace Law
open PySem PySem.Spec PyProof.Rows L2 Pv
theorem rep_comp8 (a : Int) (m : Nat) (Γ : Gam) (S : Sto) (hm : m ≤ 129) (h : ∀ p, eV 8 (Γ.set 15 (some p)) S = .ok (.int a) S) :
    lcL (lcT (gN 15) bYes (eV 8) Γ) (intsF 0 m) [] S = .ok ((List.replicate m a).map PV.int) S := by
  have := lcL_maps (f := lcT (gN 15) bYes (eV 8) Γ) (fun i : Nat => PV.int (0 + (i : Nat))) (fun _ => .int a) S (List.range m) [] (fun p _ => by simp [lcT, bYes, h]) (by simp [szl]; omega)
  unfold intsF
  rw [this]
  have e : ∀ n, (List.range n).map (fun _ => PV.int a) = (List.replicate n a).map PV.int := fun n => by
    apply List.ext_getElem <;> simp
  simp [e]
theorem turn_line (ns : List Int) (p : PV) (l : List Int) (x0 x3 x4 x5 x6 x7 x8 x9 x10 x11 x12 x13 x14 x15 : Option PV) (S : Sto) (d : DR 0 ns S) (hll : l.length ≤ 10000) :
    ∃ y8 a m S', sTurn (gN 3) l0_law p [x0, some (.ref 0), some (LI l), x3, x4, x5, x6, x7, x8, x9, x10, x11, x12, x13, x14, x15] S =
      .nx [x0, some (.ref 0), some (LI (l ++ List.replicate m a)), some p, x4, x5, x6, x7, y8, x9, x10, x11, x12, x13, x14, x15] S' ∧ 0 ≤ a ∧ a ≤ 1000000 ∧ m ≤ 129 ∧ DR 0 ns S' := by
  obtain ⟨v, S1, e1, v0, v1, d1, f1⟩ := draw d 1000000 (by decide) (by decide)
  obtain ⟨i, S2, e2, i0, i1, d2, f2⟩ := draw d1 7 (by decide) (by decide)
  obtain ⟨j, S3, e3, j0, j1, d3, f3⟩ := draw d2 3 (by decide) (by decide)
  obtain ⟨z, ez, mz⟩ := atI_mem (xs := ([0, 1, 2, 64, 8192, 1000000, v] : List Int).map PV.int) i0 (by simpa using i1)
  obtain ⟨a, ma, rfl⟩ := List.mem_map.mp mz
  obtain ⟨z, ez2, mz2⟩ := atI_mem (xs := ([1, 2, 129] : List Nat).map fun n => PV.int (n : Nat)) j0 (by simpa using j1)
  obtain ⟨m, mm, rfl⟩ := List.mem_map.mp mz2
  have ha : 0 ≤ a ∧ a ≤ 1000000 := by
    simp only [List.mem_cons, List.not_mem_nil, or_false] at ma
    omega
  have hm : m ≤ 129 := by
    simp only [List.mem_cons, List.not_mem_nil, or_false] at mm
    omega
  refine ⟨some (.int a), a, m, S3, ?_, ha.1, ha.2, hm, d3⟩
  have r1 := fun S => r1K_ok (n := (m : Int)) (S := S) ⟨by omega, by omega⟩
  simp only [Int.toNat_natCast] at r1
  have q := fun S => addLI S l (List.replicate m a) (by simp; omega)
  have rc := fun Γ S h => rep_comp8 a m Γ S hm h
  simp only [LI] at q
  simp only [List.map_cons, List.map_nil] at ez
  have ez3 : L2.atI [PV.int 1, PV.int 2, PV.int 129] j = some (.int m) := ez2
  simp [-List.map_append, -List.map_replicate, l0_law, CPow, e1, e2, e3, szl, ez, ez3, r1, rc, q]
theorem loop_line (ns : List Int) (n : Nat) (hn : n ≤ 5) (S : Sto) (d : DR 0 ns S) (x0 : Option PV) :
    ∃ l y3 y8 S', forL (sTurn (gN 3) l0_law) (intsF 0 n) [x0, some (.ref 0), some (LI []), none, none, none, none, none, none, none, none, none, none, none, none, none] S =
      .nx [x0, some (.ref 0), some (LI l), y3, none, none, none, none, y8, none, none, none, none, none, none, none] S' ∧ DR 0 ns S' ∧ (∀ a ∈ l, 0 ≤ a ∧ a ≤ 1000000) ∧ l.length ≤ 650 := by
  refine forR_ind (fun i Γ S => ∃ l y3 y8, Γ = [x0, some (.ref 0), some (LI l), y3, none, none, none, none, y8, none, none, none, none, none, none, none] ∧ DR 0 ns S ∧ l.length ≤ 129 * i ∧ ∀ a ∈ l, 0 ≤ a ∧ a ≤ 1000000)
    (fun r => ∃ l y3 y8 S', r = .nx [x0, some (.ref 0), some (LI l), y3, none, none, none, none, y8, none, none, none, none, none, none, none] S' ∧ DR 0 ns S' ∧ (∀ a ∈ l, 0 ≤ a ∧ a ≤ 1000000) ∧ l.length ≤ 650) ?_ ?_ ⟨[], none, none, rfl, d, by simp, by simp⟩
  · rintro i Γ S hi ⟨l, y3, y8, rfl, d, h2, h3⟩
    obtain ⟨z8, a, m, S', e, a0, a1, m1, d'⟩ := turn_line ns (.int i) l x0 y3 none none none none y8 none none none none none none none S d (by omega)
    rw [e]
    refine ⟨l ++ List.replicate m a, _, _, rfl, d', by simp; omega, fun b hb => ?_⟩
    rcases List.mem_append.mp hb with hb | hb
    · exact h3 b hb
    · rw [(List.mem_replicate.mp hb).2]; exact ⟨a0, a1⟩
  · rintro Γ S ⟨l, y3, y8, rfl, d, h2, h3⟩
    exact ⟨l, _, _, _, rfl, d, h3, by omega⟩
/-- one change of the data -/
theorem turn_data (ns : List Int) (p : PV) (data : List Int) (x0 x2 x3 x5 x6 x7 x8 x9 x10 x11 x12 x13 x14 x15 : Option PV) (S : Sto) (dr : DR 0 ns S) (hl : data.length < 10000) :
    ∃ data' y10 y11 y12 y13 S', sTurn (gN 3) l3_law p [x0, some (.ref 0), x2, x3, some (LI data), x5, x6, x7, x8, x9, x10, x11, x12, x13, x14, x15] S = .nx [x0, some (.ref 0), x2, some p, some (LI data'), x5, x6, x7, x8, x9, y10, y11, y12, y13, x14, x15] S' ∧ data'.length ≤ data.length + 1 ∧ DR 0 ns S' := by
  obtain ⟨a, S1, e1, a0, a1, d1, f1⟩ := draw dr (data.length + 1) (by omega) (by omega)
  obtain ⟨i, S2, e2, i0, i1, d2, f2⟩ := draw d1 8 (by decide) (by decide)
  obtain ⟨w, S3, e3, w0, w1, d3, f3⟩ := draw d2 4 (by decide) (by decide)
  obtain ⟨z, ez, mz⟩ := atI_mem (xs := ([0, 1, 127, 128, 255, 256, -1, 100000000000000000000] : List Int).map PV.int) i0 (by simpa using i1)
  obtain ⟨o, _, rfl⟩ := List.mem_map.mp mz
  simp only [List.map_cons, List.map_nil] at ez
  have sl := fun S lo hi => sl_any (S := S) (l := data) (lo := lo) (hi := hi)
  have h1 := cut_hi_len data a a0 (by omega)
  have h2 := cut_lo_len data a a0 (by omega)
  have h3 := cut_len data (some (a + 1)) none
  have q1 := fun S => addLI S (cutL data none (some a)) [o] (by simp; omega)
  have q2 := fun S => addLI S (cutL data none (some a) ++ [o]) (cutL data (some a) none) (by simp; omega)
  have q3 := fun S => addLI S (cutL data none (some a) ++ [o]) (cutL data (some (a + 1)) none) (by simp; omega)
  have q4 := fun S => addLI S (cutL data none (some a)) (cutL data (some (a + 1)) none) (by omega)
  have h4 : (cutL data (some (a + 1)) none).length ≤ data.length - a.toNat := by
    by_cases z : a + 1 ≤ data.length
    · rw [cut_lo_len data (a + 1) (by omega) z]; omega
    · unfold cutL
      rw [sIx_gt _ _ (a + 1) (by omega) (by omega), sIx_no]
      simp
  obtain ⟨z, ez4, mz4⟩ := atI_mem (xs := ([cutL data none (some a) ++ [o] ++ cutL data (some a) none, cutL data none (some a) ++ [o] ++ cutL data (some (a + 1)) none, cutL data none (some a) ++ cutL data (some (a + 1)) none, cutL data none (some a)] : List (List Int)).map fun l => LI l) w0 (by simpa using w1)
  obtain ⟨l, ml, rfl⟩ := List.mem_map.mp mz4
  have hll : l.length ≤ data.length + 1 := by
    simp only [List.mem_cons, List.not_mem_nil, or_false] at ml
    rcases ml with rfl | rfl | rfl | rfl <;> first | omega | (simp; omega)
  refine ⟨l, some (.int a), some (.int o), some (.int w), some (.con .own .lst (([cutL data none (some a) ++ [o] ++ cutL data (some a) none, cutL data none (some a) ++ [o] ++ cutL data (some (a + 1)) none, cutL data none (some a) ++ cutL data (some (a + 1)) none, cutL data none (some a)] : List (List Int)).map fun l => LI l)), S3, ?_, hll, d3⟩
  simp only [LI, List.map_cons, List.map_nil] at sl q1 q2 q3 q4 ez4
  simp [-List.map_append, -List.append_assoc, -slF_lst, l3_law, e1, e2, e3, ez, ez4, szl, CPow, sl, q1, q2, q3, q4]
theorem loop_data (ns : List Int) (n : Nat) (hn : n ≤ 3) (S : Sto) (d : DR 0 ns S) (x0 x2 x3 x5 x6 x7 x8 x9 x10 x11 x12 x13 x14 x15 : Option PV) (data : List Int) (hd : data.length ≤ 9000) :
    ∃ data' y3 y10 y11 y12 y13 S', forL (sTurn (gN 3) l3_law) (intsF 0 n) [x0, some (.ref 0), x2, x3, some (LI data), x5, x6, x7, x8, x9, x10, x11, x12, x13, x14, x15] S =
      .nx [x0, some (.ref 0), x2, y3, some (LI data'), x5, x6, x7, x8, x9, y10, y11, y12, y13, x14, x15] S' ∧ data'.length ≤ 9010 := by
  refine forR_ind (fun i Γ S => ∃ data' y3 y10 y11 y12 y13, Γ = [x0, some (.ref 0), x2, y3, some (LI data'), x5, x6, x7, x8, x9, y10, y11, y12, y13, x14, x15] ∧ DR 0 ns S ∧ data'.length ≤ 9000 + i)
    (fun r => ∃ data' y3 y10 y11 y12 y13 S', r = .nx [x0, some (.ref 0), x2, y3, some (LI data'), x5, x6, x7, x8, x9, y10, y11, y12, y13, x14, x15] S' ∧ data'.length ≤ 9010) ?_ ?_ ⟨data, x3, x10, x11, x12, x13, rfl, d, by omega⟩
  · rintro i Γ S hi ⟨data', y3, y10, y11, y12, y13, rfl, d, hl⟩
    obtain ⟨e', z10, z11, z12, z13, S', e, hl', d'⟩ := turn_data ns (.int i) data' x0 x2 y3 x5 x6 x7 x8 x9 y10 y11 y12 y13 x14 x15 S d (by omega)
    rw [e]
    exact ⟨e', _, z10, z11, z12, z13, rfl, d', by omega⟩
  · rintro Γ S ⟨data', y3, y10, y11, y12, y13, rfl, d, hl⟩
    exact ⟨data', _, _, _, _, _, _, rfl, by omega⟩
/-- behind the data: what is told -/
theorem tell (data : List Int) (hd : data.length ≤ 9010) (S : Sto) (x0 x1 x2 x3 x5 x6 x7 x8 x9 x10 x11 x12 x13 x14 x15 : Option PV) : ∃ S', r7_law [x0, x1, x2, x3, some (LI data), x5, x6, x7, x8, x9, x10, x11, x12, x13, x14, x15] S = .rt (.bl true) S' := by
  have hw := wrong_gen data (by omega)
  have hr := read_gen data (by omega)
  have ll := fun S => lendLI S data
  refine ⟨S, ?_⟩
  cases e : rs data.length data 0 0 true with
  | bad k =>
    rw [e] at hw hr
    simp only [wrS, srR, LI] at hw hr ll
    have hu : f_unpack_lines [.con .own .lst (data.map PV.int)] = .ex "BadData" [("index", .int k)] := by
      unfold f_unpack_lines
      rw [runP_eq (np := 1) rfl]
      simp [body_unpack_lines, szl, ll, hr, anyK, forK, cleans, clean]
    have hla : f_line_at [.con .own .lst (data.map PV.int), .int (-1)] = .ex "BadData" [("index", .int k)] := by
      unfold f_line_at
      rw [runP_eq (np := 2) rfl]
      simp [body_line_at, szl, ll, hr, anyK, forK, cleans, clean]
    have dd : dat 1 (.con .own .lst [.str "bad", .int k]) := ⟨Or.inr rfl, by decide, by simp, by simp [dats, dat]⟩
    have eq1 : ∀ S, eqF (.con .own .lst [.str "bad", .int k]) (.con .own .lst [.str "bad", .int k]) S = some (.bl true, S) := fun S => by
      rw [eqF_dat dd dd (by omega) (by omega), eqq_same (same_refl dd)]
    have vf : vDisp .lst (vsCons (vC (.str "bad")) (vsCons (vFld "BadData" "index") vsNil)) "BadData" [("index", .int k)] = some (.con .own .lst [.str "bad", .int k]) := by
      have l1 : ([("index", PV.int k)] : List (Str × PV)).lookup ("index" : Str) = some (.int k) := rfl
      simp [vDisp, vsCons, vC, vFld, vsNil, szl, l1]
    have p1 : xPick [([("TableError", false), ("BadIndex", false), ("BadData", true)], xAs 14 (xSet 6 (vDisp .lst (vsCons (vC (.str "bad")) (vsCons (vFld "BadData" "index") vsNil)))))] "BadData" = some (some (xAs 14 (xSet 6 (vDisp .lst (vsCons (vC (.str "bad")) (vsCons (vFld "BadData" "index") vsNil)))))) := rfl
    have p2 : xPick [([("TableError", false), ("BadIndex", false), ("BadData", true)], xAs 14 (xSet 7 (vDisp .lst (vsCons (vC (.str "bad")) (vsCons (vFld "BadData" "index") vsNil))))), ([("TableError", false), ("BadIndex", true), ("BadData", false)], xPlain (sSet 7 (eLst false (aCons (eC (.str "index")) (aCons (eNeg (eC (.int 1))) aNil)))))] "BadData" = some (some (xAs 14 (xSet 7 (vDisp .lst (vsCons (vC (.str "bad")) (vsCons (vFld "BadData" "index") vsNil)))))) := rfl
    have tk1 := fun Γ S => tryXK_ex (Γ := Γ) (S := S) (fs := [("index", .int k)]) p1
    have tk2 := fun Γ S => tryXK_ex (Γ := Γ) (S := S) (fs := [("index", .int k)]) p2
    simp [r7_law, r6_law, r5_law, szl, ll, hw, hu, hla, tk1, tk2, xAs_eq, xSet_eq vf, eq1]
  | ok s =>
    rw [e] at hw hr
    obtain ⟨hp, ha, hb, _, hc⟩ := rs_ok (Nat.le_refl _) e
    have hbd : Bd s := hb
    have hcnt : cnt s ≤ 10000 := by have := hc (by omega); simpa [cnt] using this
    have hu := unpack_lines_ok s ha hbd hcnt
    have hla := line_at_ok s ha hbd hcnt (-1)
    have hlk : lk (xp s) (-1) = none := rfl
    rw [hp] at hu hla
    rw [hlk] at hla
    have hxl : (xp s).length ≤ 10000 := by rw [xp_len]; exact hcnt
    -- pack again
    have hpk : f_pack_lines [.con .own .tup ((xp s).map PV.int)] = .ok (LI data) := by
      have := pack_lines_ok (xp s) s ha rfl (by omega) hbd
      rw [hp] at this
      exact this
    have lt := fun S => lend_clean (S := S) (clean_ints (m := .own) (by decide) (k := .tup) (xp s))
    have lk1 : f_law_like 10 [LI data, LI data] = .ok (.bl true) := by
      have q9 : dat 9 (LI data) := dat_LIn 8 data .own (by decide) .lst (Or.inr rfl) (by omega)
      rw [like_ok 9 _ _ q9 q9, same_refl q9]
    have dd : dat 1 (.con .own .lst [.str "index", .int (-1)]) := ⟨Or.inr rfl, by decide, by simp, by simp [dats, dat]⟩
    have eq1 : ∀ S, eqF (.con .own .lst [.str "index", .int (-1)]) (.con .own .lst [.str "index", .int (-1)]) S = some (.bl true, S) := fun S => by
      rw [eqF_dat dd dd (by omega) (by omega), eqq_same (same_refl dd)]
    have p2 : xPick [([("TableError", false), ("BadIndex", false), ("BadData", true)], xAs 14 (xSet 7 (vDisp .lst (vsCons (vC (.str "bad")) (vsCons (vFld "BadData" "index") vsNil))))), ([("TableError", false), ("BadIndex", true), ("BadData", false)], xPlain (sSet 7 (eLst false (aCons (eC (.str "index")) (aCons (eNeg (eC (.int 1))) aNil)))))] "BadIndex" = some (some (xPlain (sSet 7 (eLst false (aCons (eC (.str "index")) (aCons (eNeg (eC (.int 1))) aNil)))))) := rfl
    have tk2 := fun Γ S => tryXK_ex (Γ := Γ) (S := S) (fs := []) p2
    simp only [wrS, srR, LI, lineR] at hw hr ll hu hla hpk lk1
    simp [r7_law, r6_law, r5_law, r4_law, szl, ll, hw, hu, hla, tk2, xPlain, lt, hpk, lk1, eq1]
end Law

namespace Law
open PySem PySem.Spec PyProof.Rows L2 Pv
theorem bd_of26 {s : List (Int × Nat)} (hs : Alt s) (hx : ∀ a ∈ xp s, 0 ≤ a ∧ a ≤ 1000000) (hl : (xp s).length ≤ 10000) : Bd s := by
  induction s with
  | nil => intro p hp; cases hp
  | cons q s ih =>
    obtain ⟨a, m⟩ := q
    obtain ⟨h1, h2, h3⟩ := hs
    intro p hp
    simp only [xp, List.length_append, List.length_replicate] at hl
    rcases List.mem_cons.mp hp with rfl | hp
    · have := hx a (by simp [xp]; left; omega)
      exact ⟨this.1, this.2, h1, by omega⟩
    · exact ih h3 (fun b hb => hx b (by simp [xp, hb])) (by omega) p hp
theorem ints_of {vs : List PV} (q : ∀ v ∈ vs, ∃ i : Int, v = .int i) : ∃ l : List Int, vs = l.map PV.int := by
  induction vs with
  | nil => exact ⟨[], rfl⟩
  | cons v vs ih =>
    obtain ⟨i, rfl⟩ := q v (by simp)
    obtain ⟨l, rfl⟩ := ih (fun v hv => q v (by simp [hv]))
    exact ⟨i :: l, rfl⟩
theorem mid1 (ns : List Int) (S : Sto) (d : DR 0 ns S) (x0 x3 x8 : Option PV) (l : List Int) (s : List (Int × Nat)) (hs : Alt s) (hx : xp s = l) (hb : Bd s) (hl : l.length ≤ 650) :
    ∃ data y9 S', r10_law [x0, some (.ref 0), some (LI l), x3, none, none, none, none, x8, none, none, none, none, none, none, none] S = r9_law [x0, some (.ref 0), some (LI l), x3, some (LI data), none, none, none, x8, y9, none, none, none, none, none, none] S' ∧ data.length ≤ 8000 ∧ DR 0 ns S' := by
  have hpk := pack_lines_gen (k := .lst) (Or.inr rfl) l s hs hx (by omega) hb
  have hsl : s.length ≤ 650 := by have := alt_len hs; rw [hx] at this; omega
  have hdl := pkS_len 0 s hb (by omega) (by omega)
  have ll := fun S => lendLI S l
  obtain ⟨z, S3, e3, z0, z1, d3, f3⟩ := draw d 5 (by decide) (by decide)
  by_cases hz : z = 0
  · subst hz
    obtain ⟨v, S4, e4, v0, v1, d4, f4⟩ := draw d3 256 (by decide) (by decide)
    obtain ⟨m, S5, e5, m0, m1, d5, f5⟩ := draw d4 9 (by decide) (by decide)
    obtain ⟨m, rfl⟩ : ∃ j : Nat, m = j := ⟨m.toNat, by omega⟩
    obtain ⟨vs, S6, e6, d6, q6, l6⟩ := lcL_inv (f := lcT (gN 3) bYes (eOp ixF (eV 9) (eCallW f_law_draw (aCons (eV 1) (aCons (eC (.int 8)) aNil))))
      [x0, some (.ref 0), some (LI l), none, some (LI (pkS 0 s)), none, none, none, x8, some (LI [0, 1, 2, 127, 128, 255, 129, v]), none, none, none, none, none, none]) (fun S' => DR 0 ns S') (fun v => ∃ i : Int, v = .int i) (intsF 0 m) [] S5 (fun p _ S' d' => by
        obtain ⟨u, S6, e6, u0, u1, d6, f6⟩ := draw d' 8 (by decide) (by decide)
        obtain ⟨x, ex, mx⟩ := atI_mem (xs := ([0, 1, 2, 127, 128, 255, 129, v] : List Int).map PV.int) u0 (by simpa using u1)
        obtain ⟨o, _, rfl⟩ := List.mem_map.mp mx
        simp only [List.map_cons, List.map_nil] at ex
        exact ⟨.int o, S6, by simp [lcT, bYes, e6, ex, szl], d6, o, rfl⟩) d5 (by simp [intsF_len, szl]; omega)
    obtain ⟨r, rfl⟩ := ints_of q6
    have rm := fun S => r1K_ok (n := (m : Int)) (S := S) ⟨by omega, by omega⟩
    simp only [Int.toNat_natCast] at rm
    refine ⟨r, some (LI [0, 1, 2, 127, 128, 255, 129, v]), S6, ?_, by simp [intsF_len] at l6; omega, d6⟩
    simp only [LI, List.nil_append, List.map_cons, List.map_nil] at hpk e6 ll
    simp [r10_law, i1_law, ll, hpk, e3, e4, e5, rm, e6, szl, LI]
  · refine ⟨pkS 0 s, none, S3, ?_, by omega, d3⟩
    simp only [LI] at hpk ll
    simp [r10_law, ll, hpk, e3, hz]
theorem mid2 (ns : List Int) (S : Sto) (d : DR 0 ns S) (x0 x2 x3 x8 x9 : Option PV) (data : List Int) (hd : data.length ≤ 8000) :
    ∃ data' y9 S', r9_law [x0, some (.ref 0), x2, x3, some (LI data), none, none, none, x8, x9, none, none, none, none, none, none] S = r8_law [x0, some (.ref 0), x2, x3, some (LI data'), none, none, none, x8, y9, none, none, none, none, none, none] S' ∧ data'.length ≤ 8000 ∧ DR 0 ns S' := by
  obtain ⟨z, S3, e3, z0, z1, d3, f3⟩ := draw d 9 (by decide) (by decide)
  by_cases hz : z = 0
  · subst hz
    obtain ⟨w, S4, e4, w0, w1, d4, f4⟩ := draw d3 5 (by decide) (by decide)
    obtain ⟨x, ex, mx⟩ := atI_mem (xs := ([[143, 78, 2], [144, 78, 2], [142, 78, 2, 0, 4], [142, 78, 2, 1, 4], [143, 78, 2, 0, 4]] : List (List Int)).map fun l => LI l) w0 (by simpa using w1)
    obtain ⟨r, mr, rfl⟩ := List.mem_map.mp mx
    have hr : r.length ≤ 8000 := by
      simp only [List.mem_cons, List.not_mem_nil, or_false] at mr
      rcases mr with rfl | rfl | rfl | rfl | rfl <;> simp
    refine ⟨r, some (.con .own .lst (([[143, 78, 2], [144, 78, 2], [142, 78, 2, 0, 4], [142, 78, 2, 1, 4], [143, 78, 2, 0, 4]] : List (List Int)).map fun l => LI l)), S4, ?_, hr, d4⟩
    simp only [LI, List.map_cons, List.map_nil] at ex
    simp [r9_law, i2_law, e3, e4, ex, szl, LI]
  · refine ⟨data, x9, S3, ?_, hd, d3⟩
    simp [r9_law, e3, hz]
theorem pure_law (ns : List Int) (hns : ns.length ≤ 63) : f_law [scr ns] = .ok (.bl true) := by
  unfold f_law
  rw [runP_eq (np := 1) rfl]
  have hb := begin_ok ns [] hns
  simp only [List.nil_append, List.length_nil] at hb
  obtain ⟨n, S1, e1, n0, n1, d1, f1⟩ := draw (S := [drO ns 0 0 7]) (n := 0) (ns := ns) ⟨0, 0, 7, rfl, by omega⟩ 5 (by decide) (by decide)
  obtain ⟨k, rfl⟩ : ∃ k : Nat, n = k := ⟨n.toNat, by omega⟩
  obtain ⟨l, y3, y8, S2, e2, d2, hB, hlen⟩ := loop_line ns k (by omega) S1 d1 (some (scr ns))
  have r1 := fun S => r1K_ok (n := (k : Int)) (S := S) ⟨by omega, by omega⟩
  simp only [Int.toNat_natCast] at r1
  obtain ⟨s, hs, hx, _⟩ := stretches_gen (k := .lst) (Or.inr rfl) l (by omega)
  have hbd : Bd s := bd_of26 hs (by rw [hx]; exact hB) (by rw [hx]; omega)
  obtain ⟨data1, y9, S3, e3, h3, d3⟩ := mid1 ns S2 d2 (some (scr ns)) y3 y8 l s hs hx hbd hlen
  obtain ⟨data2, z9, S4, e4, h4, d4⟩ := mid2 ns S3 d3 (some (scr ns)) (some (LI l)) y3 y8 y9 data1 h3
  obtain ⟨c, S5, e5, c0, c1, d5, f5⟩ := draw d4 3 (by decide) (by decide)
  obtain ⟨c, rfl⟩ : ∃ j : Nat, c = j := ⟨c.toNat, by omega⟩
  have rc := fun S => r1K_ok (n := (c : Int)) (S := S) ⟨by omega, by omega⟩
  simp only [Int.toNat_natCast] at rc
  obtain ⟨data', z3, z10, z11, z12, z13, S6, e6, hd'⟩ := loop_data ns c (by omega) S5 d5 (some (scr ns)) (some (LI l)) y3 none none none y8 z9 none none none none none none data2 (by omega)
  obtain ⟨S7, e7⟩ := tell data' hd' S6 (some (scr ns)) (some (.ref 0)) (some (LI l)) z3 none none none y8 z9 z10 z11 z12 z13 none none
  simp only [LI, List.map_nil] at e2 e3 e4 e6 e7
  simp [body_law, hb, e1, e2, r1, szl, e3, e4, r8_law, e5, rc, e6, e7]
end Law


namespace Law
open PySem PySem.Spec PyProof.Rows L2 Pv
def dd_packed : He.DefD := ⟨("packed", none), "packed", "packed", defArgs (topS 8), defBody (topS 8), defScope (topS 8), [], []⟩
def dd_folded : He.DefD := ⟨("folded", none), "folded", "folded", defArgs (topS 9), defBody (topS 9), defScope (topS 9), [], []⟩
def dd_unfolded : He.DefD := ⟨("unfolded", none), "unfolded", "unfolded", defArgs (topS 10), defBody (topS 10), defScope (topS 10), [], []⟩
def dd_unpacked : He.DefD := ⟨("unpacked", none), "unpacked", "unpacked", defArgs (topS 11), defBody (topS 11), defScope (topS 11), [], []⟩
def dd_stretches_of : He.DefD := ⟨("stretches_of", none), "stretches_of", "stretches_of", defArgs (topS 12), defBody (topS 12), defScope (topS 12), [], []⟩
def dd_pack_lines : He.DefD := ⟨("pack_lines", none), "pack_lines", "pack_lines", defArgs (topS 13), defBody (topS 13), defScope (topS 13), [], []⟩
def dd_read_stretches : He.DefD := ⟨("read_stretches", none), "read_stretches", "read_stretches", defArgs (topS 14), defBody (topS 14), defScope (topS 14), [], []⟩
def dd_unpack_lines : He.DefD := ⟨("unpack_lines", none), "unpack_lines", "unpack_lines", defArgs (topS 15), defBody (topS 15), defScope (topS 15), [], []⟩
def dd_line_at : He.DefD := ⟨("line_at", none), "line_at", "line_at", defArgs (topS 16), defBody (topS 16), defScope (topS 16), [], []⟩
def dd_law_begin : He.DefD := ⟨("_law_begin", none), "_law_begin", "_law_begin", defArgs (topS 18), defBody (topS 18), defScope (topS 18), [], []⟩
def dd_law_draw : He.DefD := ⟨("_law_draw", none), "_law_draw", "_law_draw", defArgs (topS 19), defBody (topS 19), defScope (topS 19), [], []⟩
def dd_law_packed : He.DefD := ⟨("_law_packed", none), "_law_packed", "_law_packed", defArgs (topS 20), defBody (topS 20), defScope (topS 20), [], []⟩
def dd_law_zigzag : He.DefD := ⟨("_law_zigzag", none), "_law_zigzag", "_law_zigzag", defArgs (topS 21), defBody (topS 21), defScope (topS 21), [], []⟩
def dd_law_like : He.DefD := ⟨("_law_like", none), "_law_like", "_law_like", defArgs (topS 22), defBody (topS 22), defScope (topS 22), [], []⟩
def dd_law_number : He.DefD := ⟨("_law_number", none), "_law_number", "_law_number", defArgs (topS 23), defBody (topS 23), defScope (topS 23), [], []⟩
def dd_law_wrong : He.DefD := ⟨("_law_wrong", none), "_law_wrong", "_law_wrong", defArgs (topS 24), defBody (topS 24), defScope (topS 24), [], []⟩
def dd_law : He.DefD := ⟨("law", none), "law", "law", defArgs (topS 25), defBody (topS 25), defScope (topS 25), [], []⟩
abbrev ini_BadData : Stmt := clsS (topS 3) 0
def dd_ini_BadData : He.DefD := ⟨("BadData", some "__init__"), "__init__", "BadData.__init__", defArgs ini_BadData, defBody ini_BadData, defScope ini_BadData, [], []⟩
def fnL : List He.DefD := [dd_packed, dd_folded, dd_unfolded, dd_unpacked, dd_stretches_of, dd_pack_lines, dd_read_stretches, dd_unpack_lines, dd_line_at, dd_law_begin, dd_law_draw, dd_law_packed, dd_law_zigzag, dd_law_like, dd_law_number, dd_law_wrong, dd_law, dd_ini_BadData]
def faL : List He.Fa := ([.glo "packed", .glo "folded", .glo "unfolded", .glo "unpacked", .glo "stretches_of", .glo "pack_lines", .glo "read_stretches", .glo "unpack_lines", .glo "line_at", .glo "_law_begin", .glo "_law_draw", .glo "_law_packed", .glo "_law_zigzag", .glo "_law_like", .glo "_law_number", .glo "_law_wrong", .glo "law", .free "divmod", .free "len", .free "tuple", .free "list", .free "int", .free "bool", .free "isinstance", .free "str", .free "range", .int "LINES" c_LINES, .int "GROUP" c_GROUP, .int "MOST_LINES" c_MOST_LINES] : List He.Fa)
def exB (K : PySem.W.Frag) : Bool := (excB K "BadIndex" && (oexB K "BadData" "index" && (exmB K "BadData" [("TableError", false), ("BadIndex", false), ("BadData", true)] && (exmB K "BadIndex" [("TableError", false), ("BadIndex", true), ("BadData", false)] && (xfxB K "BadData" "index" && true)))))
def looseL : List PySem.Str := (["TableError", "BadIndex", "BadData", "LINES", "GROUP", "MOST_LINES", "packed", "folded", "unfolded", "unpacked", "stretches_of", "pack_lines", "read_stretches", "unpack_lines", "line_at", "_law_begin", "_law_draw", "_law_packed", "_law_zigzag", "_law_like", "_law_number", "_law_wrong"] : List PySem.Str)
abbrev RR : PySem.W.OpenRow := PySem.W.OpenLaw.row PySem.Challenge.rw_codetables_k26_packed_lines_refused
abbrev hk : PySem.W.Hook := He.hookX 6 faL fnL [] [] exB
def ob (s : PySem.W.SharedT) : He.AlX := He.obsX 6 faL fnL [] [] exB (HandSHeadRun.getT s)
theorem ob_eq (s : PySem.W.SharedT) : ob s = hk.obs s.abs := He.obsX_eq (HandSHeadRun.getT_eq s)
theorem run (w : World) : HandSHeadRun.RunEq RR (PySem.W.view RR.prog [25]) hk ob 3000 looseL w := by
  intro os
  kernel_rfl
theorem facts {P : Program} {w : World} {K : PySem.W.Frag} {h : Heap} {mg : Str → Option Value} {f : Addr} (X : K.In h) (G : h.Ns mainGlobals mg) (hfa : mg ("law" : Str) = some (.ref f)) (c : He.SaysX faL fnL [] [] exB w h K) :
    ∃ fd : FuncData, (∀ (s : Shared) (v : Value), BindsTo s fd ⟨[v], []⟩ [("_law_script", v)]) ∧ ∀ base : Heap, K.In base → base.Ns mainGlobals mg → FnOk P w K mg base (L2.CX P w) 12 f fd ["_law_script"] (spP ⟨K, mg⟩ f_law) := by
  have D_packed : DefAt K mg "packed" (topS 8) ["number"] := by
    obtain ⟨fd, F⟩ := c.t.d.def_ 0 (d := dd_packed) rfl
    exact ⟨_, fd, F, He.glo_ok X G (c.t.d.fact 0 (f := .glo "packed") rfl), FunD.bindsN F fun _ _ _ _ _ _ us hl => match us, hl with | [_], _ => rfl⟩
  have D_folded : DefAt K mg "folded" (topS 9) ["number"] := by
    obtain ⟨fd, F⟩ := c.t.d.def_ 1 (d := dd_folded) rfl
    exact ⟨_, fd, F, He.glo_ok X G (c.t.d.fact 1 (f := .glo "folded") rfl), FunD.bindsN F fun _ _ _ _ _ _ us hl => match us, hl with | [_], _ => rfl⟩
  have D_unfolded : DefAt K mg "unfolded" (topS 10) ["number"] := by
    obtain ⟨fd, F⟩ := c.t.d.def_ 2 (d := dd_unfolded) rfl
    exact ⟨_, fd, F, He.glo_ok X G (c.t.d.fact 2 (f := .glo "unfolded") rfl), FunD.bindsN F fun _ _ _ _ _ _ us hl => match us, hl with | [_], _ => rfl⟩
  have D_unpacked : DefAt K mg "unpacked" (topS 11) ["data", "at"] := by
    obtain ⟨fd, F⟩ := c.t.d.def_ 3 (d := dd_unpacked) rfl
    exact ⟨_, fd, F, He.glo_ok X G (c.t.d.fact 3 (f := .glo "unpacked") rfl), FunD.bindsN F fun _ _ _ _ _ _ us hl => match us, hl with | [_, _], _ => rfl⟩
  have D_stretches_of : DefAt K mg "stretches_of" (topS 12) ["lines"] := by
    obtain ⟨fd, F⟩ := c.t.d.def_ 4 (d := dd_stretches_of) rfl
    exact ⟨_, fd, F, He.glo_ok X G (c.t.d.fact 4 (f := .glo "stretches_of") rfl), FunD.bindsN F fun _ _ _ _ _ _ us hl => match us, hl with | [_], _ => rfl⟩
  have D_pack_lines : DefAt K mg "pack_lines" (topS 13) ["lines"] := by
    obtain ⟨fd, F⟩ := c.t.d.def_ 5 (d := dd_pack_lines) rfl
    exact ⟨_, fd, F, He.glo_ok X G (c.t.d.fact 5 (f := .glo "pack_lines") rfl), FunD.bindsN F fun _ _ _ _ _ _ us hl => match us, hl with | [_], _ => rfl⟩
  have D_read_stretches : DefAt K mg "read_stretches" (topS 14) ["data"] := by
    obtain ⟨fd, F⟩ := c.t.d.def_ 6 (d := dd_read_stretches) rfl
    exact ⟨_, fd, F, He.glo_ok X G (c.t.d.fact 6 (f := .glo "read_stretches") rfl), FunD.bindsN F fun _ _ _ _ _ _ us hl => match us, hl with | [_], _ => rfl⟩
  have D_unpack_lines : DefAt K mg "unpack_lines" (topS 15) ["data"] := by
    obtain ⟨fd, F⟩ := c.t.d.def_ 7 (d := dd_unpack_lines) rfl
    exact ⟨_, fd, F, He.glo_ok X G (c.t.d.fact 7 (f := .glo "unpack_lines") rfl), FunD.bindsN F fun _ _ _ _ _ _ us hl => match us, hl with | [_], _ => rfl⟩
  have D_line_at : DefAt K mg "line_at" (topS 16) ["data", "index"] := by
    obtain ⟨fd, F⟩ := c.t.d.def_ 8 (d := dd_line_at) rfl
    exact ⟨_, fd, F, He.glo_ok X G (c.t.d.fact 8 (f := .glo "line_at") rfl), FunD.bindsN F fun _ _ _ _ _ _ us hl => match us, hl with | [_, _], _ => rfl⟩
  have D_law_begin : DefAt K mg "_law_begin" (topS 18) ["_law_script"] := by
    obtain ⟨fd, F⟩ := c.t.d.def_ 9 (d := dd_law_begin) rfl
    exact ⟨_, fd, F, He.glo_ok X G (c.t.d.fact 9 (f := .glo "_law_begin") rfl), FunD.bindsN F fun _ _ _ _ _ _ us hl => match us, hl with | [_], _ => rfl⟩
  have D_law_draw : DefAt K mg "_law_draw" (topS 19) ["_law_draws", "_law_many"] := by
    obtain ⟨fd, F⟩ := c.t.d.def_ 10 (d := dd_law_draw) rfl
    exact ⟨_, fd, F, He.glo_ok X G (c.t.d.fact 10 (f := .glo "_law_draw") rfl), FunD.bindsN F fun _ _ _ _ _ _ us hl => match us, hl with | [_, _], _ => rfl⟩
  have D_law_packed : DefAt K mg "_law_packed" (topS 20) ["_law_number_here"] := by
    obtain ⟨fd, F⟩ := c.t.d.def_ 11 (d := dd_law_packed) rfl
    exact ⟨_, fd, F, He.glo_ok X G (c.t.d.fact 11 (f := .glo "_law_packed") rfl), FunD.bindsN F fun _ _ _ _ _ _ us hl => match us, hl with | [_], _ => rfl⟩
  have D_law_zigzag : DefAt K mg "_law_zigzag" (topS 21) ["_law_number_here"] := by
    obtain ⟨fd, F⟩ := c.t.d.def_ 12 (d := dd_law_zigzag) rfl
    exact ⟨_, fd, F, He.glo_ok X G (c.t.d.fact 12 (f := .glo "_law_zigzag") rfl), FunD.bindsN F fun _ _ _ _ _ _ us hl => match us, hl with | [_], _ => rfl⟩
  have D_law_like : DefAt K mg "_law_like" (topS 22) ["_law_actual", "_law_due"] := by
    obtain ⟨fd, F⟩ := c.t.d.def_ 13 (d := dd_law_like) rfl
    exact ⟨_, fd, F, He.glo_ok X G (c.t.d.fact 13 (f := .glo "_law_like") rfl), FunD.bindsN F fun _ _ _ _ _ _ us hl => match us, hl with | [_, _], _ => rfl⟩
  have D_law_number : DefAt K mg "_law_number" (topS 23) ["_law_data", "_law_at"] := by
    obtain ⟨fd, F⟩ := c.t.d.def_ 14 (d := dd_law_number) rfl
    exact ⟨_, fd, F, He.glo_ok X G (c.t.d.fact 14 (f := .glo "_law_number") rfl), FunD.bindsN F fun _ _ _ _ _ _ us hl => match us, hl with | [_, _], _ => rfl⟩
  have D_law_wrong : DefAt K mg "_law_wrong" (topS 24) ["_law_data"] := by
    obtain ⟨fd, F⟩ := c.t.d.def_ 15 (d := dd_law_wrong) rfl
    exact ⟨_, fd, F, He.glo_ok X G (c.t.d.fact 15 (f := .glo "_law_wrong") rfl), FunD.bindsN F fun _ _ _ _ _ _ us hl => match us, hl with | [_], _ => rfl⟩
  obtain ⟨fd, F⟩ := c.t.d.def_ 16 (d := dd_law) rfl
  have z_divmod : mg "divmod" = none := He.free_ok X G (c.t.d.fact 17 (f := .free "divmod") rfl)
  have z_len : mg "len" = none := He.free_ok X G (c.t.d.fact 18 (f := .free "len") rfl)
  have z_tuple : mg "tuple" = none := He.free_ok X G (c.t.d.fact 19 (f := .free "tuple") rfl)
  have z_list : mg "list" = none := He.free_ok X G (c.t.d.fact 20 (f := .free "list") rfl)
  have z_int : mg "int" = none := He.free_ok X G (c.t.d.fact 21 (f := .free "int") rfl)
  have z_bool : mg "bool" = none := He.free_ok X G (c.t.d.fact 22 (f := .free "bool") rfl)
  have z_isinstance : mg "isinstance" = none := He.free_ok X G (c.t.d.fact 23 (f := .free "isinstance") rfl)
  have z_str : mg "str" = none := He.free_ok X G (c.t.d.fact 24 (f := .free "str") rfl)
  have z_range : mg "range" = none := He.free_ok X G (c.t.d.fact 25 (f := .free "range") rfl)
  have more := c.more
  simp only [exB, Bool.and_eq_true] at more
  have k_LINES : ∃ t, mg "LINES" = some (.int c_LINES t) := He.int_ok X G (c.t.d.fact 26 (f := .int "LINES" c_LINES) rfl)
  have k_GROUP : ∃ t, mg "GROUP" = some (.int c_GROUP t) := He.int_ok X G (c.t.d.fact 27 (f := .int "GROUP" c_GROUP) rfl)
  have k_MOST_LINES : ∃ t, mg "MOST_LINES" = some (.int c_MOST_LINES t) := He.int_ok X G (c.t.d.fact 28 (f := .int "MOST_LINES" c_MOST_LINES) rfl)
  have x_BadIndex := excB_ok X G more.1
  have x_BadData : ∀ base, ExcI P w K mg base "BadData" "index" (He.ga K "BadData") := fun base => by
    obtain ⟨fd, F⟩ := c.t.d.def_ 17 (d := dd_ini_BadData) rfl
    exact (oexB_ok X G more.2.1).ok (st := ini_BadData) (dvs := []) (kws := []) F (FunD.bindsN F fun _ _ _ _ _ _ us hl => match us, hl with | [_, _], _ => rfl) ⟨rfl, rfl, rfl, by decide +kernel, rfl, by decide +kernel, by decide +kernel⟩ rfl (by decide +kernel) (by decide +kernel)
  have m_BadData := exmB_ok X G more.2.2.1
  have m_BadIndex := exmB_ok X G more.2.2.2.1
  have w_BadData_index := xfxB_ok X G more.2.2.2.2.1
  have e := hfa.symm.trans (He.glo_ok X G (c.t.d.fact 16 (f := .glo "law") rfl))
  cases e
  refine ⟨fd, fun s v => FunD.bindsA (ps := ["_law_script"]) F (fun _ _ _ _ _ _ us hl => match us, hl with | [_], _ => rfl) s [v] rfl, fun base _ _ => ?_⟩
  have x_BadData := x_BadData base
  have c_packed := d_packed (P := P) (w := w) (base := base) D_packed k_GROUP z_divmod
  have c_folded := d_folded (P := P) (w := w) (base := base) D_folded 
  have c_unfolded := d_unfolded (P := P) (w := w) (base := base) D_unfolded z_divmod
  have c_stretches_of := d_stretches_of (P := P) (w := w) (base := base) D_stretches_of 
  have c_law_begin := d_law_begin (P := P) (w := w) (base := base) D_law_begin z_list
  have c_law_draw := d_law_draw (P := P) (w := w) (base := base) D_law_draw z_len z_int
  have c_law_packed := d_law_packed (P := P) (w := w) (base := base) D_law_packed z_int
  have c_law_zigzag := d_law_zigzag (P := P) (w := w) (base := base) D_law_zigzag 
  have c_law_like := d_law_like (P := P) (w := w) (base := base) D_law_like z_bool z_isinstance z_int z_str z_tuple z_len z_list z_range 10
  have c_law_number := d_law_number (P := P) (w := w) (base := base) D_law_number z_len
  have c_pack_lines := d_pack_lines (P := P) (w := w) (base := base) D_pack_lines c_stretches_of c_packed c_folded
  have c_law_wrong := d_law_wrong (P := P) (w := w) (base := base) D_law_wrong c_law_number z_len z_int
  have c_unpacked := d_unpacked (P := P) (w := w) (base := base) D_unpacked k_GROUP z_len x_BadData
  have c_read_stretches := d_read_stretches (P := P) (w := w) (base := base) D_read_stretches c_unpacked c_unfolded z_len k_MOST_LINES x_BadData k_LINES
  have c_unpack_lines := d_unpack_lines (P := P) (w := w) (base := base) D_unpack_lines c_read_stretches z_tuple
  have c_line_at := d_line_at (P := P) (w := w) (base := base) D_line_at c_read_stretches x_BadIndex
  exact d_law F c_law_begin c_pack_lines c_law_wrong c_law_draw c_law_like c_unpack_lines c_line_at z_range z_len m_BadData w_BadData_index m_BadIndex
end Law
open PySem PySem.W PySem.Calls PyProof.Rows
theorem PySem.Challenge.cw_codetables_k26_packed_lines_refused_holds : PySem.Challenge.rw_codetables_k26_packed_lines_refused.Holds := by
  w_on; o_law
  refine HandSHeadRun.head_any (r := OpenLaw.row PySem.Challenge.rw_codetables_k26_packed_lines_refused) (q := view (OpenLaw.row PySem.Challenge.rw_codetables_k26_packed_lines_refused).prog [25]) (H := Law.hk) (ob := Law.ob) (M := 3000) (loose := Law.looseL) (d := HandSHeadRun.topDef (OpenLaw.row PySem.Challenge.rw_codetables_k26_packed_lines_refused).prog 25) (kwd := []) Law.ob_eq
    (by kernel_rfl) (fun s => by kernel_rfl) Law.run (by kernel_rfl) (by kernel_rfl) (by kernel_rfl) (by rfl) (by first | assumption | decide +kernel) (by decide +kernel) ⟨rfl, rfl, rfl, rfl, rfl, by decide +kernel⟩ ?hw ?hc
  case hw => w_witness2
  case hc =>
    refine Pv.law_end (l := PySem.Challenge.rw_codetables_k26_packed_lines_refused) (n := 63) (k := 12) (x := "_law_script") rfl (by decide) (by kernel_rfl) ⟨rfl, by decide, by decide⟩ ?F
    intro w mg fa h Y G hmg0
    obtain ⟨K, KX, c⟩ := Y
    have hmg : mg ("law" : PySem.Str) = some (.ref fa) := by
      have e : (HandSHeadRun.topDef (OpenLaw.row PySem.Challenge.rw_codetables_k26_packed_lines_refused).prog 25).name = ("law" : PySem.Str) := by kernel_rfl
      rw [← e]
      exact hmg0
    obtain ⟨fd, hb, hF⟩ := Law.facts (P := (PySem.Challenge.rw_codetables_k26_packed_lines_refused).prog) (w := w) KX G hmg c
    exact ⟨K, Law.f_law, fd, KX, hb, Law.pure_law, hF⟩

