import PyProof.Rows.All
import Wide.All
import OpenK.AllK
import Wide.FinOn
import HandS.Base
import HandS.Call
import HandS.List
import HandS.Exc
import HandS.ExcOwn
import HandS.Comp
import HandS.Words
import KE.DataEq
import HandS.Text
import HandS.TupAny
import HandS.WordsExc
import HandS.Defaults
import HandS.Iter
import HandS.Conv
import HandS.More
import HandS.Replace
import HandS.Small
import HandS.IsInst
import HandS.SortInts
import HandS.HeadHook4
import HandS.HeadEnd
import HandS.Head2
import HandS.Deep
import HandS.ExcInit
import HandS.TryMany
import HandS.NoneIn
import HandS.Steps
import HandS.ExcField
import HandS.ExcIs
import KE.KExcIs
import HandS.Property
import HandS.OwnEq
import KE.GoesMore
import HandS.Wide
import HandS.Strs
import KE.GoesSet
import PyProof.EvalArms
import HandS.SetFor
import PyProof.Rows.SetFrom
import HandS.Dict
import HandS.DictComp
import KE.KDictDisplayH
import HandS.Style
import HandS.CallLocal
import HandS.Star
import KE.GoesNew
import KE.KDictKeyed
import KE.KDictZip
import PyProof.ListNew
import HandS.FStr
import HandS.RaiseMore
import HandS.Zip
import PySem.Challenge.RW_codetables_k29_texts_there_and_back
import PyProof.Rows.StrDigitsNeg
import KE.IntTextLaws
set_option Elab.async false
set_option linter.all false
set_option maxRecDepth 100000
set_option maxHeartbeats 4000000
/-! Pv1: plain values, the store of changing objects, what stands for what, readings by functions. -/
namespace Pv
open PySem PySem.Spec PyProof.Rows L2
/-- kinds of objects with parts -/
inductive Kd where
  | tup | lst | ins (c : Str) (ns : List Str) | dk (ks : List Key) | dt (ks : List (List Key)) | dm (hs : List (Bool × Int))
  deriving DecidableEq
/-- how an object stands that doesn't change while it is looked at: for good, lent for a call, or outside (locked, or written by the text's top) -/
inductive Md where
  | own | lent | out
  deriving DecidableEq
/-- plain values: con m k xs stands for an object that doesn't change while it is looked at; ref n for the n-th changing object -/
inductive PV where
  | non | bl (b : Bool) | int (i : Int) | str (s : Str) | con (m : Md) (k : Kd) (xs : List PV) | ref (n : Nat) | fn (x : Str) | ty (n : String)
abbrev Sto := List (Option (Kd × List PV))
abbrev Gam := List (Option PV)
inductive R (α : Type) where
  | ok (a : α) (S : Sto) | ex (c : Str) (fs : List (Str × PV)) (S : Sto) | bad
def R.bind {α β : Type} (r : R α) (k : α → Sto → R β) : R β := match r with
  | .ok a S => k a S
  | .ex c fs S => .ex c fs S
  | .bad => .bad
structure G where
  F : Addr → Prop
  T : Addr → Prop
  r : Nat → Addr
/-- the entries of a dict whose keys are ints (true) and other things (false), by their hashes -/
def MixE (hs : List (Bool × Int)) (vs : List V) (es : List DictEntry) : Prop :=
  es.length = hs.length ∧ es.length = vs.length ∧ ∀ (j : Nat) (e : DictEntry), es[j]? = some e → ∃ p v, hs[j]? = some p ∧ vs[j]? = some v ∧ e.hash = p.2 ∧ RelV v e.val ∧ (p.1 = true → ∃ t, e.key = .int p.2 t) ∧ (p.1 = false → ∃ a, e.key = .ref a)
def HOof (mg : Str → Option Value) : Kd → List V → HO → Prop
  | .tup, vs, o => o = .tup vs
  | .lst, vs, o => o = .lst vs
  | .ins c ns, vs, o => ∃ C dx, mg c = some (.ref C) ∧ ns.length = vs.length ∧ o = .ins C dx (ns.zip vs)
  | .dk ks, vs, o => ks.length = vs.length ∧ o = .dK (ks.zip vs)
  | .dt ks, vs, o => ks.length = vs.length ∧ o = .dT (ks.zip vs)
  | .dm hs, vs, o => ∃ (D : Addr) (es : Array DictEntry) (ep : Nat), o = .ext (fun h => h.get? D = some { cls := .type "dict", dict := none, data := .dict es ep }) ∧ MixE hs vs es.toList
/-- the written part and what the module's names hold -/
structure Kx where
  K : PySem.W.Frag
  mg : Str → Option Value
def kx (X : Cx) : Kx := ⟨X.K, X.mg⟩
instance : Coe Cx Kx := ⟨kx⟩
/-- an object of the written part -/
def Wr (K : PySem.W.Frag) (a : Addr) : Kd → List V → Prop
  | .lst, xs => ∃ (o : Obj) (its : Array Value) (n : Nat), K.lookup a = some o ∧ o.cls = .type "list" ∧ o.dict = none ∧ o.data = .seq its n ∧ its.size ≤ sizeLine ∧ Vals xs its.toList
  | .tup, xs => ∃ (o : Obj) (its : Array Value) (n : Nat), K.lookup a = some o ∧ o.cls = .type "tuple" ∧ o.data = .seq its n ∧ its.size ≤ sizeLine ∧ Vals xs its.toList
  | _, _ => False
/-- what may be read at a as (k, vs) -/
def At (X : Kx) (H : Hp) (g : G) (m : Md) (a : Addr) (k : Kd) (vs : List V) : Prop := match m with
  | .own => ∃ o, HOof X.mg k vs o ∧ H a = some o ∧ (Mut (some o) → g.F a)
  | .lent => ∃ o, HOof X.mg k vs o ∧ H a = some o ∧ (Mut (some o) → g.T a)
  | .out => (∃ ob o, HOof X.mg k vs o ∧ H a = some (.frz ob o)) ∨ Wr X.K a k vs
mutual
def RV (X : Kx) (H : Hp) (g : G) (L : Nat) : PV → V → Prop
  | .non, v => v = .non
  | .bl b, v => v = .bl b
  | .int i, v => v = .int i
  | .str s, v => v = .str s
  | .con m k xs, v => ∃ a vs, v = .ref a ∧ At X H g m a k vs ∧ RVs X H g L xs vs
  | .ref n, v => n < L ∧ v = .ref (g.r n)
  | .fn x, v => ∃ a, X.mg x = some (.ref a) ∧ v = .ref a
  | .ty n, v => v = .ty n
def RVs (X : Kx) (H : Hp) (g : G) (L : Nat) : List PV → List V → Prop
  | [], vs => vs = []
  | x :: xs, vs => ∃ v r, vs = v :: r ∧ RV X H g L x v ∧ RVs X H g L xs r
end
/-- alive in the store -/
def Al (S : Sto) (n : Nat) : Prop := ∃ q, S[n]? = some (some q)
structure Rel (X : Kx) (H : Hp) (g : G) (S : Sto) : Prop where
  ob : ∀ n k xs, S[n]? = some (some (k, xs)) → ∃ o vs, H (g.r n) = some o ∧ HOof X.mg k vs o ∧ k ≠ .tup ∧ RVs X H g S.length xs vs
  inj : ∀ n m, Al S n → Al S m → g.r n = g.r m → n = m
  fF : ∀ n, Al S n → ¬ g.F (g.r n)
  fT : ∀ n, Al S n → ¬ g.T (g.r n)
  tr : ∀ a, g.F a ∨ g.T a → ∃ o, H a = some o
structure Ext (X : Kx) (H : Hp) (g : G) (S : Sto) (H' : Hp) (g' : G) (S' : Sto) : Prop where
  rel : Rel X H' g' S'
  frame : ∀ a o, H a = some o → (∀ n, Al S n → g.r n ≠ a) → H' a = some o
  old : ∀ n, Al S' n → (Al S n ∧ g'.r n = g.r n) ∨ H (g'.r n) = none
  rho : ∀ n, n < S.length → g'.r n = g.r n
  len : S.length ≤ S'.length
  fr : ∀ a, g.F a → g'.F a
  tt : g'.T = g.T
  trk : ∀ a o, H a = some o → ∃ o', H' a = some o'
  nf : ∀ a, g'.F a → g.F a ∨ H a = none ∨ ∃ n, Al S n ∧ g.r n = a
section
variable {X : Kx} {H H' H'' : Hp} {g g' g'' : G} {S S' S'' : Sto}
theorem HOof.mut {mg : Str → Option Value} {k : Kd} {vs : List V} {o : HO} (h : HOof mg k vs o) (hk : k ≠ .tup) : Mut (some o) := by
  cases k with
  | tup => exact absurd rfl hk
  | lst => cases h; exact trivial
  | ins c ns => obtain ⟨_, _, _, _, rfl⟩ := h; exact trivial
  | dk ks => obtain ⟨_, rfl⟩ := h; exact trivial
  | dt ks => obtain ⟨_, rfl⟩ := h; exact trivial
  | dm hs => obtain ⟨_, _, _, rfl, _⟩ := h; exact trivial
theorem Rel.mut (x : Rel X H g S) {n : Nat} (h : Al S n) : Mut (H (g.r n)) := by
  obtain ⟨⟨k, xs⟩, e⟩ := h
  obtain ⟨o, vs, e1, ho, hk, _⟩ := x.ob n k xs e
  rw [e1]
  exact ho.mut hk
/-- what is read stays -/
structure Up (H : Hp) (g : G) (L : Nat) (H' : Hp) (g' : G) (L' : Nat) : Prop where
  keep : ∀ a o, H a = some o → (Mut (some o) → g.F a ∨ g.T a) → H' a = some o
  fr : ∀ a, g.F a → g'.F a
  tt : ∀ a, g.T a → g'.T a
  rho : ∀ n, n < L → g'.r n = g.r n
  len : L ≤ L'
theorem At.mono {L L' : Nat} {m : Md} {a : Addr} {k : Kd} {vs : List V} (u : Up H g L H' g' L') (h : At X H g m a k vs) : At X H' g' m a k vs := by
  cases m with
  | own => obtain ⟨o, h1, h2, h3⟩ := h; exact ⟨o, h1, u.keep a o h2 fun z => Or.inl (h3 z), fun z => u.fr a (h3 z)⟩
  | lent => obtain ⟨o, h1, h2, h3⟩ := h; exact ⟨o, h1, u.keep a o h2 fun z => Or.inr (h3 z), fun z => u.tt a (h3 z)⟩
  | out =>
    rcases h with ⟨ob, o, h1, h2⟩ | h
    · exact Or.inl ⟨ob, o, h1, u.keep a _ h2 fun z => False.elim z⟩
    · exact Or.inr h
mutual
theorem RV.mono {L L' : Nat} (u : Up H g L H' g' L') : ∀ (p : PV) (v : V), RV X H g L p v → RV X H' g' L' p v
  | .non, _, h => h
  | .bl _, _, h => h
  | .int _, _, h => h
  | .str _, _, h => h
  | .fn _, _, h => h
  | .ty _, _, h => h
  | .ref n, v, h => by
    simp only [RV] at h ⊢
    obtain ⟨h1, h2⟩ := h
    exact ⟨Nat.lt_of_lt_of_le h1 u.len, by rw [u.rho n h1]; exact h2⟩
  | .con m k xs, v, h => by
    simp only [RV] at h ⊢
    obtain ⟨a, vs, h1, h2, h3⟩ := h
    exact ⟨a, vs, h1, h2.mono u, RVs.mono u xs vs h3⟩
theorem RVs.mono {L L' : Nat} (u : Up H g L H' g' L') : ∀ (p : List PV) (v : List V), RVs X H g L p v → RVs X H' g' L' p v
  | [], _, h => h
  | x :: xs, vs, h => by
    simp only [RVs] at h ⊢
    obtain ⟨v, r, h1, h2, h3⟩ := h
    exact ⟨v, r, h1, RV.mono u x v h2, RVs.mono u xs r h3⟩
end
theorem Ext.up (rel : Rel X H g S) (e : Ext X H g S H' g' S') : Up H g S.length H' g' S'.length where
  keep := fun a o h k => e.frame a o h fun n hn z => by
    subst z
    have m := rel.mut hn
    rw [h] at m
    rcases k m with q | q
    · exact rel.fF n hn q
    · exact rel.fT n hn q
  fr := e.fr
  tt := fun a h => by rw [e.tt]; exact h
  rho := e.rho
  len := e.len
theorem RV.up (rel : Rel X H g S) (e : Ext X H g S H' g' S') (p : PV) (v : V) (h : RV X H g S.length p v) : RV X H' g' S'.length p v := RV.mono (e.up rel) p v h
theorem RVs.up (rel : Rel X H g S) (e : Ext X H g S H' g' S') (p : List PV) (v : List V) (h : RVs X H g S.length p v) : RVs X H' g' S'.length p v := RVs.mono (e.up rel) p v h
theorem Ext.refl (rel : Rel X H g S) : Ext X H g S H g S := ⟨rel, fun _ _ h _ => h, fun _ h => Or.inl ⟨h, rfl⟩, fun _ _ => rfl, Nat.le_refl _, fun _ h => h, rfl, fun _ o h => ⟨o, h⟩, fun _ h => Or.inl h⟩
theorem Ext.trans (a : Ext X H g S H' g' S') (b : Ext X H' g' S' H'' g'' S'') : Ext X H g S H'' g'' S'' where
  rel := b.rel
  frame := fun x o h hn => b.frame x o (a.frame x o h hn) fun n hn' z => by
    rcases a.old n hn' with ⟨h1, h2⟩ | h1
    · exact hn n h1 (h2.symm.trans z)
    · rw [z, h] at h1; cases h1
  old := fun n hn => by
    rcases b.old n hn with ⟨h1, h2⟩ | h1
    · rw [h2]
      exact a.old n h1
    · cases q : H (g''.r n) with
      | none => exact Or.inr rfl
      | some o =>
        obtain ⟨o', h2⟩ := a.trk _ o q
        rw [h1] at h2; cases h2
  rho := fun n h => (b.rho n (Nat.lt_of_lt_of_le h a.len)).trans (a.rho n h)
  len := Nat.le_trans a.len b.len
  fr := fun x h => b.fr x (a.fr x h)
  tt := b.tt.trans a.tt
  trk := fun x o h => by
    obtain ⟨o', h'⟩ := a.trk x o h
    exact b.trk x o' h'
  nf := fun x h => by
    rcases b.nf x h with h | h | ⟨n, hn, rfl⟩
    · exact a.nf x h
    · cases q : H x with
      | none => exact Or.inr (Or.inl rfl)
      | some o =>
        obtain ⟨o', h2⟩ := a.trk x o q
        rw [h] at h2; cases h2
    · rcases a.old n hn with ⟨h1, h2⟩ | h1
      · exact Or.inr (Or.inr ⟨n, h1, h2.symm⟩)
      · exact Or.inr (Or.inl h1)
/-! ### slots -/
structure RG (X : Kx) (H : Hp) (g : G) (L : Nat) (Γ : Gam) (σ : L2.St) : Prop where
  len : Γ.length = σ.length
  at_ : ∀ (i : Nat) (p : PV), Γ[i]? = some (some p) → ∃ v, σ[i]? = some (some v) ∧ RV X H g L p v
theorem RG.up {Γ : Gam} {σ : L2.St} (rel : Rel X H g S) (e : Ext X H g S H' g' S') (h : RG X H g S.length Γ σ) : RG X H' g' S'.length Γ σ :=
  ⟨h.len, fun i p q => by
    obtain ⟨v, h1, h2⟩ := h.at_ i p q
    exact ⟨v, h1, RV.up rel e p v h2⟩⟩
theorem RG.set {Γ : Gam} {σ : L2.St} {L : Nat} {i : Nat} {p : PV} {v : V} (h : RG X H g L Γ σ) (r : RV X H g L p v) : RG X H g L (Γ.set i (some p)) (σ.set i (some v)) := by
  refine ⟨by rw [List.length_set, List.length_set]; exact h.len, fun j q e => ?_⟩
  by_cases hij : i = j
  · subst hij
    rw [List.getElem?_set] at e ⊢
    rw [if_pos rfl] at e ⊢
    by_cases hl : i < Γ.length
    · rw [if_pos hl] at e
      rw [if_pos (h.len ▸ hl)]
      cases e
      exact ⟨v, rfl, r⟩
    · rw [if_neg hl] at e; cases e
  · rw [List.getElem?_set_ne hij] at e ⊢
    exact h.at_ j q e
theorem RG.unset {Γ : Gam} {σ : L2.St} {L : Nat} {i : Nat} (h : RG X H g L Γ σ) : RG X H g L (Γ.set i none) (σ.set i none) := by
  refine ⟨by rw [List.length_set, List.length_set]; exact h.len, fun j q e => ?_⟩
  by_cases hij : i = j
  · subst hij
    rw [List.getElem?_set] at e
    rw [if_pos rfl] at e
    by_cases hl : i < Γ.length
    · rw [if_pos hl] at e; cases e
    · rw [if_neg hl] at e; cases e
  · rw [List.getElem?_set_ne hij] at e ⊢
    exact h.at_ j q e
/-! ### an exception, as plain data -/
def RX (X : Kx) (H : Hp) (g : G) (L : Nat) (c : Str) (fs : List (Str × PV)) (cls : Value) (d : Option Addr) : Prop :=
  X.mg c = some cls ∧ ((fs = [] ∧ d = none) ∨ ∃ dx vs, d = some dx ∧ H dx = some (.xd ((fs.map (·.1)).zip vs)) ∧ RVs X H g L (fs.map (·.2)) vs)
/-! ### what a result is worth, from (H, g, S) on; σ: the slots at a raise -/
def OKw {α : Type} (X : Kx) (W : WX) (σ : L2.St) (H : Hp) (g : G) (S : Sto) (r : R α) (P : α → Sto → G → Hp → Prop) : Prop := match r with
  | .ok v S' => ∀ g' H', Ext X H g S H' g' S' → P v S' g' H'
  | .ex c fs S' => ∀ g' H' cls d, Ext X H g S H' g' S' → RX X H' g' S'.length c fs cls d → W cls d σ H'
  | .bad => False
theorem OKw.bind {α β : Type} {W : WX} {σ : L2.St} {r : R α} {k : α → Sto → R β} {P : β → Sto → G → Hp → Prop} (h : OKw X W σ H g S (r.bind k) P) :
    OKw X W σ H g S r fun v S1 g1 H1 => OKw X W σ H1 g1 S1 (k v S1) P := by
  cases r with
  | ok v S1 =>
    intro g1 H1 e1
    have h : OKw X W σ H g S (k v S1) P := h
    show OKw X W σ H1 g1 S1 (k v S1) P
    cases q : k v S1 with
    | ok w S2 =>
      rw [q] at h
      exact fun g2 H2 e2 => h g2 H2 (e1.trans e2)
    | ex c fs S2 =>
      rw [q] at h
      exact fun g2 H2 cls d e2 rx => h g2 H2 cls d (e1.trans e2) rx
    | bad => rw [q] at h; exact h
  | ex c fs S1 => exact h
  | bad => exact h
theorem OKw.mono {α : Type} {W : WX} {σ : L2.St} {r : R α} {P P' : α → Sto → G → Hp → Prop} (h : OKw X W σ H g S r P) (hP : ∀ v S' g' H', r = .ok v S' → Ext X H g S H' g' S' → P v S' g' H' → P' v S' g' H') : OKw X W σ H g S r P' := by
  cases r with
  | ok v S1 => exact fun g1 H1 e1 => hP v S1 g1 H1 rfl e1 (h g1 H1 e1)
  | ex c fs S1 => exact h
  | bad => exact h
end
section
variable {X : Cx} {H H' H'' : Hp} {g g' g'' : G} {S S' S'' : Sto}
/-! ### readings by functions -/
abbrev EF := Gam → Sto → R PV
abbrev BF := Gam → Sto → R Bool
abbrev AF := Gam → Sto → R (List PV)
def lift (X : Cx) (W : WX) (t : EF) : TE := fun σ H Q => ∃ g Γ S, Rel X H g S ∧ RG X H g S.length Γ σ ∧ OKw X W σ H g S (t Γ S) fun v S' g' H' => ∀ x, RV X H' g' S'.length v x → Q x H'
def liftB (X : Cx) (W : WX) (t : BF) : TT := fun σ H Q => ∃ g Γ S, Rel X H g S ∧ RG X H g S.length Γ σ ∧ OKw X W σ H g S (t Γ S) fun b _ _ H' => Q b H'
def liftA (X : Cx) (W : WX) (t : AF) : TA := fun σ H Q => ∃ g Γ S, Rel X H g S ∧ RG X H g S.length Γ σ ∧ OKw X W σ H g S (t Γ S) fun vs S' g' H' => ∀ xs, RVs X H' g' S'.length vs xs → Q xs H'
/-- an expression computes t -/
def E (X : Cx) (W : WX) (e : Expr) (t : EF) : Prop := PE X e (lift X W t)
def B (X : Cx) (W : WX) (e : Expr) (t : BF) : Prop := PT X e (liftB X W t)
def A (X : Cx) (W : WX) (es : List Expr) (t : AF) : Prop := PA X es (liftA X W t)
theorem pe_imp {e : Expr} {t t' : TE} (h : PE X e t) (k : ∀ σ H Q, t' σ H Q → t σ H Q) : PE X e t' := ⟨fun pins s σ H Q I q => h.run pins s σ H Q I (k σ H Q q)⟩
theorem pt_imp {e : Expr} {t t' : TT} (h : PT X e t) (k : ∀ σ H Q, t' σ H Q → t σ H Q) : PT X e t' := ⟨fun pins s σ H Q I q => h.run pins s σ H Q I (k σ H Q q)⟩
theorem pa_imp {e : List Expr} {t t' : TA} (h : PA X e t) (k : ∀ σ H Q, t' σ H Q → t σ H Q) : PA X e t' := ⟨fun pos pins s σ H Q I q => h.run pos pins s σ H Q I (k σ H Q q)⟩
/-! names and constants -/
def eV (i : Nat) : EF := fun Γ S => match Γ[i]? with
  | some (some v) => .ok v S
  | _ => .bad
def eC (v : PV) : EF := fun _ S => .ok v S
variable {W : WX}
theorem OKw.ok {α : Type} {W : WX} {σ : L2.St} {v : α} {P : α → Sto → G → Hp → Prop} (rel : Rel X H g S) (h : OKw X W σ H g S (.ok v S) P) : P v S g H := h g H (Ext.refl rel)
theorem E.var {i : Nat} {x : Str} {pos : Pos} (h : PE X (.Name x pos) (tVar i)) : E X W (.Name x pos) (eV i) := pe_imp h fun σ H Q ⟨g, Γ, S, rel, rg, ok⟩ => by
  unfold eV at ok
  split at ok
  · rename_i v e
    obtain ⟨x, h1, h2⟩ := rg.at_ i v e
    exact ⟨x, h1, OKw.ok rel ok x h2⟩
  · exact ok.elim
theorem E.const {e : Expr} {v : V} {p : PV} (h : PE X e (tC v)) (hp : ∀ H g L, RV X H g L p v) : E X W e (eC p) := pe_imp h fun σ H Q ⟨g, Γ, S, rel, rg, ok⟩ => OKw.ok rel ok v (hp H g S.length)
theorem E.int {i : Int} {j pos} : E X W (.Constant (.int i) j pos) (eC (.int i)) := E.const pe_int fun _ _ _ => rfl
theorem E.bl {b : Bool} {j pos} : E X W (.Constant (.bool b) j pos) (eC (.bl b)) := E.const pe_bl fun _ _ _ => rfl
theorem E.non {j pos} : E X W (.Constant .none j pos) (eC .non) := E.const pe_non fun _ _ _ => rfl
theorem E.str {x : Str} {j pos} : E X W (.Constant (.str x) j pos) (eC (.str x)) := E.const pe_str fun _ _ _ => rfl
/-! two-place operations, by values -/
abbrev OF := PV → PV → Sto → Option (PV × Sto)
def R.of {α : Type} : Option (α × Sto) → R α
  | some (v, S) => .ok v S
  | none => .bad
def eOp (f : OF) (a b : EF) : EF := fun Γ S => (a Γ S).bind fun x S1 => (b Γ S1).bind fun y S2 => R.of (f x y S2)
/-- r may be asked where f gives a value -/
def OpF (X : Kx) (r : R2) (f : OF) : Prop := ∀ (H : Hp) (g : G) (S : Sto) (p q : PV) (x y : V) (w : PV) (S' : Sto) (Q : VK), Rel X H g S → RV X H g S.length p x → RV X H g S.length q y → f p q S = some (w, S') →
  (∀ g' H' z, Ext X H g S H' g' S' → RV X H' g' S'.length w z → Q z H') → r x y H Q
theorem lift_op {r : R2} {f : OF} {a b : EF} (hf : OpF X r f) {σ : L2.St} {H : Hp} {Q : VK} (h : lift X W (eOp f a b) σ H Q) : tOp r (lift X W a) (lift X W b) σ H Q := by
  obtain ⟨g, Γ, S, rel, rg, ok⟩ := h
  refine ⟨g, Γ, S, rel, rg, OKw.mono (OKw.bind ok) fun p S1 g1 H1 _ e1 h1 x rx => ?_⟩
  refine ⟨g1, Γ, S1, e1.rel, rg.up rel e1, OKw.mono (OKw.bind h1) fun q S2 g2 H2 _ e2 h2 y ry => ?_⟩
  cases hw : f p q S2 with
  | none => rw [hw] at h2; exact h2.elim
  | some z =>
    obtain ⟨w, S3⟩ := z
    rw [hw] at h2
    exact hf H2 g2 S2 p q x y w S3 Q e2.rel (RV.up e1.rel e2 p x rx) ry hw fun g' H' z e3 rz => h2 g' H' e3 z rz
theorem E.op {op : Operator} {r : R2} {f : OF} {a b : Expr} {ta tb : EF} {pos : Pos} (ho : OpR X (binaryOp op) r) (hf : OpF X r f) (ha : E X W a ta) (hb : E X W b tb) : E X W (.BinOp a op b pos) (eOp f ta tb) :=
  pe_imp (pe_op ho ha hb) fun _ _ _ h => lift_op hf h
end
end Pv
/-! Pv2: objects laid, changed, read; operations by values. -/
namespace Pv
open PySem PySem.Spec PyProof.Rows L2
section
variable {X : Kx} {H H' H'' : Hp} {g g' g'' : G} {S S' S'' : Sto} {W : WX}
theorem Al.lt {n : Nat} (h : Al S n) : n < S.length := by
  obtain ⟨q, e⟩ := h
  exact (List.getElem?_eq_some_iff.mp e).1
theorem Rel.tracked (rel : Rel X H g S) {n : Nat} (h : Al S n) : ∃ o, H (g.r n) = some o := by
  obtain ⟨⟨k, xs⟩, e⟩ := h
  obtain ⟨o, vs, e1, _⟩ := rel.ob n k xs e
  exact ⟨o, e1⟩
/-! ### a new object -/
def newP (m : Bool) (k : Kd) (xs : List PV) (S : Sto) : PV × Sto := if m then (.ref S.length, S ++ [some (k, xs)]) else (.con .own k xs, S)
def G.addF (g : G) (p : Addr) : G := { g with F := fun a => g.F a ∨ a = p }
def G.addR (g : G) (n : Nat) (p : Addr) : G := { g with r := fun i => if i = n then p else g.r i }
theorem up_addF {p : Addr} {o : HO} {L : Nat} (hp : H p = none) : Up H g L (upd H p o) (g.addF p) L :=
  ⟨fun a u h _ => by rw [upd_ne (ne_of_none h hp)]; exact h, fun _ h => Or.inl h, fun _ h => h, fun _ _ => rfl, Nat.le_refl _⟩
theorem up_addR {p : Addr} {o : HO} {L : Nat} (hp : H p = none) : Up H g L (upd H p o) (g.addR L p) (L + 1) :=
  ⟨fun a u h _ => by rw [upd_ne (ne_of_none h hp)]; exact h, fun _ h => h, fun _ h => h, fun n h => if_neg (Nat.ne_of_lt h), Nat.le_succ _⟩
theorem newF_ok {k : Kd} {xs : List PV} {vs : List V} {p : Addr} {o : HO} (rel : Rel X H g S) (hp : H p = none) (ho : HOof X.mg k vs o) (hr : RVs X H g S.length xs vs) :
    Ext X H g S (upd H p o) (g.addF p) S ∧ RV X (upd H p o) (g.addF p) S.length (.con .own k xs) (.ref p) := by
  have hne : ∀ n, Al S n → g.r n ≠ p := fun n hn z => by
    obtain ⟨u, e⟩ := rel.tracked hn
    rw [z, hp] at e; cases e
  refine ⟨⟨⟨fun n k' xs' e => ?_, rel.inj, fun n hn z => ?_, rel.fT, fun a z => ?_⟩, fun a u h _ => by rw [upd_ne (ne_of_none h hp)]; exact h, fun n hn => Or.inl ⟨hn, rfl⟩, fun _ _ => rfl, Nat.le_refl _, fun _ h => Or.inl h, rfl, fun a u h => ⟨u, by rw [upd_ne (ne_of_none h hp)]; exact h⟩, fun a h => h.elim Or.inl fun z => Or.inr (Or.inl (z ▸ hp))⟩, ?_⟩
  · obtain ⟨u, ws, h1, h2, h3, h4⟩ := rel.ob n k' xs' e
    exact ⟨u, ws, by show upd H p o (g.r n) = _; rw [upd_ne (hne n ⟨_, e⟩)]; exact h1, h2, h3, RVs.mono (up_addF hp) _ _ h4⟩
  · rcases z with z | z
    · exact rel.fF n hn z
    · exact hne n hn z
  · by_cases e : a = p
    · exact ⟨o, by rw [e, upd_same]⟩
    · rw [upd_ne e]
      refine rel.tr a ?_
      rcases z with (z | z) | z
      · exact Or.inl z
      · exact absurd z e
      · exact Or.inr z
  · simp only [RV]
    exact ⟨p, vs, rfl, ⟨o, ho, upd_same, fun _ => Or.inr rfl⟩, RVs.mono (up_addF hp) _ _ hr⟩
theorem newM_ok {k : Kd} {xs : List PV} {vs : List V} {p : Addr} {o : HO} (rel : Rel X H g S) (hp : H p = none) (ho : HOof X.mg k vs o) (hk : k ≠ .tup) (hr : RVs X H g S.length xs vs) :
    Ext X H g S (upd H p o) (g.addR S.length p) (S ++ [some (k, xs)]) ∧ RV X (upd H p o) (g.addR S.length p) (S ++ [some (k, xs)]).length (.ref S.length) (.ref p) := by
  have hne : ∀ n, Al S n → g.r n ≠ p := fun n hn z => by
    obtain ⟨u, e⟩ := rel.tracked hn
    rw [z, hp] at e; cases e
  have hlen : (S ++ [some (k, xs)]).length = S.length + 1 := by simp
  have hal : ∀ n, Al (S ++ [some (k, xs)]) n → (Al S n ∧ (g.addR S.length p).r n = g.r n) ∨ (n = S.length ∧ (g.addR S.length p).r n = p) := fun n hn => by
    obtain ⟨q, e⟩ := hn
    by_cases hl : n < S.length
    · rw [List.getElem?_append_left hl] at e
      exact Or.inl ⟨⟨q, e⟩, if_neg (Nat.ne_of_lt hl)⟩
    · have : n = S.length := by
        have := (List.getElem?_eq_some_iff.mp e).1
        rw [hlen] at this
        omega
      exact Or.inr ⟨this, if_pos this⟩
  refine ⟨⟨⟨fun n k' xs' e => ?_, fun n m hn hm e => ?_, fun n hn z => ?_, fun n hn z => ?_, fun a z => ?_⟩, fun a u h _ => by rw [upd_ne (ne_of_none h hp)]; exact h, fun n hn => ?_, fun n hn => if_neg (Nat.ne_of_lt hn), by rw [hlen]; exact Nat.le_succ _, fun _ h => h, rfl, fun a u h => ⟨u, by rw [upd_ne (ne_of_none h hp)]; exact h⟩, fun _ h => Or.inl h⟩, ?_⟩
  · rw [hlen]
    rcases hal n ⟨_, e⟩ with ⟨h1, h2⟩ | ⟨h1, h2⟩
    · rw [List.getElem?_append_left h1.lt] at e
      obtain ⟨u, ws, q1, q2, q3, q4⟩ := rel.ob n k' xs' e
      exact ⟨u, ws, by rw [h2, upd_ne (hne n h1)]; exact q1, q2, q3, RVs.mono (up_addR hp) _ _ q4⟩
    · subst h1
      rw [List.getElem?_append_right (Nat.le_refl _)] at e
      simp only [Nat.sub_self, List.getElem?_cons_zero, Option.some.injEq, Prod.mk.injEq] at e
      obtain ⟨e1, e2⟩ := e
      subst e1 e2
      exact ⟨o, vs, by rw [h2, upd_same], ho, hk, RVs.mono (up_addR hp) _ _ hr⟩
  · rcases hal n hn with ⟨h1, h2⟩ | ⟨h1, h2⟩
    · rcases hal m hm with ⟨h3, h4⟩ | ⟨h3, h4⟩
      · rw [h2, h4] at e
        exact rel.inj n m h1 h3 e
      · rw [h2, h4] at e
        exact absurd e (hne n h1)
    · rcases hal m hm with ⟨h3, h4⟩ | ⟨h3, h4⟩
      · rw [h2, h4] at e
        exact absurd e.symm (hne m h3)
      · exact h1.trans h3.symm
  · have z : g.F ((g.addR S.length p).r n) := z
    rcases hal n hn with ⟨h1, h2⟩ | ⟨h1, h2⟩
    · rw [h2] at z
      exact rel.fF n h1 z
    · rw [h2] at z
      obtain ⟨u, q⟩ := rel.tr p (Or.inl z)
      rw [hp] at q; cases q
  · have z : g.T ((g.addR S.length p).r n) := z
    rcases hal n hn with ⟨h1, h2⟩ | ⟨h1, h2⟩
    · rw [h2] at z
      exact rel.fT n h1 z
    · rw [h2] at z
      obtain ⟨u, q⟩ := rel.tr p (Or.inr z)
      rw [hp] at q; cases q
  · by_cases e : a = p
    · exact ⟨o, by rw [e, upd_same]⟩
    · rw [upd_ne e]
      exact rel.tr a z
  · rcases hal n hn with ⟨h1, h2⟩ | ⟨h1, h2⟩
    · exact Or.inl ⟨h1, h2⟩
    · exact Or.inr (by rw [h2]; exact hp)
  · simp only [RV]
    exact ⟨by rw [hlen]; exact Nat.lt_succ_self _, by show V.ref p = V.ref ((g.addR S.length p).r S.length); rw [show (g.addR S.length p).r S.length = p from if_pos rfl]⟩
theorem new_ok {m : Bool} {k : Kd} {xs : List PV} {vs : List V} {p : Addr} {o : HO} (rel : Rel X H g S) (hp : H p = none) (ho : HOof X.mg k vs o) (hk : k ≠ .tup) (hr : RVs X H g S.length xs vs) :
    ∃ g', Ext X H g S (upd H p o) g' (newP m k xs S).2 ∧ RV X (upd H p o) g' (newP m k xs S).2.length (newP m k xs S).1 (.ref p) := by
  cases m with
  | true => exact ⟨_, newM_ok rel hp ho hk hr⟩
  | false => exact ⟨_, newF_ok rel hp ho hr⟩
/-! ### a changing object gets another content -/
theorem set_ok {n : Nat} {k k' : Kd} {xs xs' : List PV} {vs' : List V} {o' : HO} (rel : Rel X H g S) (hn : S[n]? = some (some (k, xs))) (ho : HOof X.mg k' vs' o') (hk : k' ≠ .tup) (hr : RVs X H g S.length xs' vs') :
    Ext X H g S (upd H (g.r n) o') g (S.set n (some (k', xs'))) := by
  have an : Al S n := ⟨_, hn⟩
  have hlen : (S.set n (some (k', xs'))).length = S.length := List.length_set
  have hal : ∀ i, Al (S.set n (some (k', xs'))) i → Al S i := fun i ⟨q, e⟩ => by
    by_cases z : n = i
    · subst z; exact an
    · rw [List.getElem?_set_ne z] at e; exact ⟨q, e⟩
  have mu := rel.mut an
  have up : Up H g S.length (upd H (g.r n) o') g S.length := ⟨fun a u h z => by
    refine (upd_ne fun e => ?_).trans h
    subst e
    rw [h] at mu
    rcases z mu with z | z
    · exact rel.fF n an z
    · exact rel.fT n an z, fun _ h => h, fun _ h => h, fun _ _ => rfl, Nat.le_refl _⟩
  refine ⟨⟨fun i k2 xs2 e => ?_, fun i j hi hj e => rel.inj i j (hal i hi) (hal j hj) e, fun i hi => rel.fF i (hal i hi), fun i hi => rel.fT i (hal i hi), fun a z => ?_⟩, fun a u h z => ?_, fun i hi => Or.inl ⟨hal i hi, rfl⟩, fun _ _ => rfl, Nat.le_of_eq hlen.symm, fun _ h => h, rfl, fun a u h => ?_, fun _ h => Or.inl h⟩
  · rw [hlen]
    by_cases z : n = i
    · subst z
      rw [List.getElem?_set_self (Al.lt an)] at e
      simp only [Option.some.injEq, Prod.mk.injEq] at e
      obtain ⟨e1, e2⟩ := e
      subst e1 e2
      exact ⟨o', vs', upd_same, ho, hk, RVs.mono up _ _ hr⟩
    · rw [List.getElem?_set_ne z] at e
      obtain ⟨u, ws, q1, q2, q3, q4⟩ := rel.ob i k2 xs2 e
      exact ⟨u, ws, by rw [upd_ne fun q => z (rel.inj i n ⟨_, e⟩ an q).symm]; exact q1, q2, q3, RVs.mono up _ _ q4⟩
  · by_cases e : a = g.r n
    · exact ⟨o', by rw [e, upd_same]⟩
    · rw [upd_ne e]; exact rel.tr a z
  · rw [upd_ne fun e => z n an e.symm]; exact h
  · by_cases e : a = g.r n
    · exact ⟨o', by rw [e, upd_same]⟩
    · exact ⟨u, by rw [upd_ne e]; exact h⟩
/-! ### reading -/
def deref (S : Sto) : PV → Option (Kd × List PV)
  | .con _ k xs => some (k, xs)
  | .ref n => S[n]?.join
  | _ => none
/-- what may be read at a -/
def Rdd (X : Kx) (H : Hp) (k : Kd) (vs : List V) (a : Addr) : Prop := (∃ o, HOof X.mg k vs o ∧ Rd H a o) ∨ Wr X.K a k vs
theorem At.rdd {m : Md} {a : Addr} {k : Kd} {vs : List V} (h : At X H g m a k vs) : Rdd X H k vs a := by
  cases m with
  | own => obtain ⟨o, h1, h2, _⟩ := h; exact Or.inl ⟨o, h1, Or.inl h2⟩
  | lent => obtain ⟨o, h1, h2, _⟩ := h; exact Or.inl ⟨o, h1, Or.inl h2⟩
  | out =>
    rcases h with ⟨ob, o, h1, h2⟩ | h
    · exact Or.inl ⟨o, h1, Or.inr ⟨ob, h2⟩⟩
    · exact Or.inr h
theorem join_some {n : Nat} {q : Kd × List PV} (h : S[n]?.join = some q) : S[n]? = some (some q) := by
  cases e : S[n]? with
  | none => rw [e] at h; cases h
  | some o =>
    rw [e] at h
    cases o with
    | none => cases h
    | some z => cases h; rfl
theorem deref_ok {p : PV} {x : V} {k : Kd} {xs : List PV} (rel : Rel X H g S) (rv : RV X H g S.length p x) (h : deref S p = some (k, xs)) : ∃ a vs, x = .ref a ∧ RVs X H g S.length xs vs ∧ Rdd X H k vs a := by
  cases p with
  | con m k' xs' =>
    have h : some (k', xs') = some (k, xs) := h
    cases h
    simp only [RV] at rv
    obtain ⟨a, vs, h1, h2, h3⟩ := rv
    exact ⟨a, vs, h1, h3, h2.rdd⟩
  | ref n =>
    have e := join_some h
    obtain ⟨o, vs, h1, h2, h3, h4⟩ := rel.ob n k xs e
    simp only [RV] at rv
    exact ⟨_, vs, rv.2, h4, Or.inl ⟨o, h2, Or.inl h1⟩⟩
  | non => cases h
  | bl _ => cases h
  | int _ => cases h
  | str _ => cases h
  | fn _ => cases h
  | ty _ => cases h
theorem Rdd.lst {vs : List V} {a : Addr} (h : Rdd X H .lst vs a) : SqL X.K H a vs := by
  rcases h with ⟨o, h1, h2⟩ | h
  · cases h1; exact Or.inl h2
  · exact Or.inr h
theorem Rdd.tup {vs : List V} {a : Addr} (h : Rdd X H .tup vs a) : SqT X.K H a vs := by
  rcases h with ⟨o, h1, h2⟩ | h
  · cases h1; exact Or.inl h2
  · exact Or.inr h
/-- tracked by itself -/
def derefH (S : Sto) : PV → Option (Kd × List PV)
  | .con .own k xs => some (k, xs)
  | .con .lent k xs => some (k, xs)
  | .ref n => S[n]?.join
  | _ => none
theorem derefH_ok {p : PV} {x : V} {k : Kd} {xs : List PV} (rel : Rel X H g S) (rv : RV X H g S.length p x) (h : derefH S p = some (k, xs)) : ∃ a vs o, x = .ref a ∧ RVs X H g S.length xs vs ∧ HOof X.mg k vs o ∧ H a = some o := by
  cases p with
  | con m k' xs' =>
    simp only [RV] at rv
    obtain ⟨a, vs, h1, h2, h3⟩ := rv
    cases m with
    | own => cases h; obtain ⟨o, q1, q2, _⟩ := h2; exact ⟨a, vs, o, h1, h3, q1, q2⟩
    | lent => cases h; obtain ⟨o, q1, q2, _⟩ := h2; exact ⟨a, vs, o, h1, h3, q1, q2⟩
    | out => cases h
  | ref n =>
    have e := join_some h
    obtain ⟨o, vs, h1, h2, h3, h4⟩ := rel.ob n k xs e
    simp only [RV] at rv
    exact ⟨_, vs, o, rv.2, h4, h2, h1⟩
  | non => cases h
  | bl _ => cases h
  | int _ => cases h
  | str _ => cases h
  | fn _ => cases h
  | ty _ => cases h
/-! ### rows of values -/
theorem RVs.len {L : Nat} : ∀ {xs : List PV} {vs : List V}, RVs X H g L xs vs → xs.length = vs.length
  | [], _, h => by simp only [RVs] at h; subst h; rfl
  | x :: xs, _, h => by
    simp only [RVs] at h
    obtain ⟨v, r, rfl, _, h3⟩ := h
    simp only [List.length_cons, RVs.len h3]
theorem RVs.get {L : Nat} : ∀ {xs : List PV} {vs : List V} {i : Nat} {p : PV}, RVs X H g L xs vs → xs[i]? = some p → ∃ v, vs[i]? = some v ∧ RV X H g L p v
  | [], _, _, _, _, e => by simp at e
  | x :: xs, _, i, p, h, e => by
    simp only [RVs] at h
    obtain ⟨v, r, rfl, h2, h3⟩ := h
    cases i with
    | zero => simp at e; subst e; exact ⟨v, rfl, h2⟩
    | succ i =>
      obtain ⟨w, q1, q2⟩ := RVs.get (i := i) (p := p) h3 (by simpa using e)
      exact ⟨w, by simpa using q1, q2⟩
theorem RVs.of_get {L : Nat} : ∀ {xs : List PV} {vs : List V}, xs.length = vs.length → (∀ (i : Nat) (p : PV) (v : V), xs[i]? = some p → vs[i]? = some v → RV X H g L p v) → RVs X H g L xs vs
  | [], vs, hl, _ => by
    simp only [RVs]
    cases vs with
    | nil => rfl
    | cons _ _ => simp at hl
  | x :: xs, vs, hl, h => by
    cases vs with
    | nil => simp at hl
    | cons v r =>
      simp only [RVs]
      exact ⟨v, r, rfl, h 0 x v rfl rfl, RVs.of_get (by simpa using hl) fun i p w e1 e2 => h (i + 1) p w (by simpa using e1) (by simpa using e2)⟩
theorem RVs.append {L : Nat} : ∀ {xs ys : List PV} {vs ws : List V}, RVs X H g L xs vs → RVs X H g L ys ws → RVs X H g L (xs ++ ys) (vs ++ ws)
  | [], ys, vs, ws, h, k => by simp only [RVs] at h; subst h; exact k
  | x :: xs, ys, _, ws, h, k => by
    simp only [RVs] at h
    obtain ⟨v, r, rfl, h2, h3⟩ := h
    simp only [List.cons_append, RVs]
    exact ⟨v, _, rfl, h2, RVs.append h3 k⟩
theorem RVs.nil {L : Nat} : RVs X H g L [] [] := by simp only [RVs]
theorem RVs.cons {L : Nat} {x : PV} {v : V} {xs : List PV} {vs : List V} (h : RV X H g L x v) (k : RVs X H g L xs vs) : RVs X H g L (x :: xs) (v :: vs) := by
  simp only [RVs]; exact ⟨v, vs, rfl, h, k⟩
theorem RVs.set {L : Nat} {xs : List PV} {vs : List V} {i : Nat} {p : PV} {v : V} (h : RVs X H g L xs vs) (k : RV X H g L p v) : RVs X H g L (xs.set i p) (vs.set i v) := by
  refine RVs.of_get (by simp [h.len]) fun j q w e1 e2 => ?_
  by_cases z : i = j
  · subst z
    have l1 := (List.getElem?_eq_some_iff.mp e1).1
    have l2 := (List.getElem?_eq_some_iff.mp e2).1
    rw [List.length_set] at l1 l2
    rw [List.getElem?_set_self l1] at e1
    rw [List.getElem?_set_self l2] at e2
    cases e1; cases e2; exact k
  · rw [List.getElem?_set_ne z] at e1 e2
    obtain ⟨w', q1, q2⟩ := h.get e1
    rw [e2] at q1; cases q1; exact q2
theorem RVs.take {L : Nat} {xs : List PV} {vs : List V} (n : Nat) (h : RVs X H g L xs vs) : RVs X H g L (xs.take n) (vs.take n) := by
  refine RVs.of_get (by simp [h.len]) fun j q w e1 e2 => ?_
  rw [List.getElem?_take] at e1 e2
  split at e1
  · rename_i hlt
    rw [if_pos hlt] at e2
    obtain ⟨w', q1, q2⟩ := h.get e1
    rw [e2] at q1; cases q1; exact q2
  · cases e1
theorem RVs.drop {L : Nat} {xs : List PV} {vs : List V} (n : Nat) (h : RVs X H g L xs vs) : RVs X H g L (xs.drop n) (vs.drop n) := by
  refine RVs.of_get (by simp [h.len]) fun j q w e1 e2 => ?_
  rw [List.getElem?_drop] at e1 e2
  obtain ⟨w', q1, q2⟩ := h.get e1
  rw [e2] at q1; cases q1; exact q2
theorem RVs.mk_ints {L : Nat} : ∀ (ns : List Int), RVs X H g L (ns.map PV.int) (ns.map V.int)
  | [] => RVs.nil
  | n :: ns => RVs.cons (by simp only [RV]) (RVs.mk_ints ns)
theorem RVs.mk_strs {L : Nat} : ∀ (ns : List Str), RVs X H g L (ns.map PV.str) (ns.map V.str)
  | [] => RVs.nil
  | n :: ns => RVs.cons (by simp only [RV]) (RVs.mk_strs ns)
end
end Pv
/-! Pv3: operators, comparisons, tests. -/
namespace Pv
open PySem PySem.Spec PyProof.Rows L2
section
variable {X : Cx} {Y : Kx} {H H' H'' : Hp} {g g' g'' : G} {S S' S'' : Sto} {W : WX}
theorem OpR.or {f : Value → Value → Sem Value} {r r' : R2} (h : OpR X f r) (h' : OpR X f r') : OpR X f (fun x y H Q => r x y H Q ∨ r' x y H Q) := by
  intro pins s σ H x y v u Q I rx ry q
  rcases q with q | q
  · exact h pins s σ H x y v u Q I rx ry q
  · exact h' pins s σ H x y v u Q I rx ry q
theorem RV.int_inv {L : Nat} {i : Int} {x : V} (h : RV Y H g L (.int i) x) : x = .int i := by simpa only [RV] using h
theorem RV.str_inv {L : Nat} {i : Str} {x : V} (h : RV Y H g L (.str i) x) : x = .str i := by simpa only [RV] using h
theorem RV.bl_inv {L : Nat} {i : Bool} {x : V} (h : RV Y H g L (.bl i) x) : x = .bl i := by simpa only [RV] using h
theorem RV.non_inv {L : Nat} {x : V} (h : RV Y H g L .non x) : x = .non := by simpa only [RV] using h
theorem RV.int {L : Nat} {i : Int} : RV Y H g L (.int i) (.int i) := by simp only [RV]
theorem RV.str {L : Nat} {i : Str} : RV Y H g L (.str i) (.str i) := by simp only [RV]
theorem RV.bl {L : Nat} {i : Bool} : RV Y H g L (.bl i) (.bl i) := by simp only [RV]
theorem RV.non {L : Nat} : RV Y H g L .non .non := by simp only [RV]
/-! ### arithmetic -/
def iOp (C : Int → Int → Prop) [∀ i j, Decidable (C i j)] (f : Int → Int → PV) : OF := fun p q S => match p, q with
  | .int i, .int j => if C i j then some (f i j, S) else none
  | _, _ => none
def iOp0 (f : Int → Int → PV) : OF := fun p q S => match p, q with
  | .int i, .int j => some (f i j, S)
  | _, _ => none
theorem iOp0_inv {f : Int → Int → PV} {p q : PV} {w : PV} (h : iOp0 f p q S = some (w, S')) : ∃ i j, p = .int i ∧ q = .int j ∧ w = f i j ∧ S' = S := by
  unfold iOp0 at h
  split at h
  · simp only [Option.some.injEq, Prod.mk.injEq] at h; exact ⟨_, _, rfl, rfl, h.1.symm, h.2.symm⟩
  · cases h
theorem iOp_inv {C : Int → Int → Prop} [∀ i j, Decidable (C i j)] {f : Int → Int → PV} {p q : PV} {w : PV} (h : iOp C f p q S = some (w, S')) : ∃ i j, p = .int i ∧ q = .int j ∧ C i j ∧ w = f i j ∧ S' = S := by
  unfold iOp at h
  split at h
  · split at h
    · simp only [Option.some.injEq, Prod.mk.injEq] at h; exact ⟨_, _, rfl, rfl, by assumption, h.1.symm, h.2.symm⟩
    · cases h
  · cases h
theorem opf_I0 {f : Int → Int → Int} : OpF X (rI0 fun i j => .int (f i j)) (iOp0 fun i j => .int (f i j)) := by
  intro H g S p q x y w S' Q rel rx ry h k
  obtain ⟨i, j, rfl, rfl, rfl, rfl⟩ := iOp0_inv h
  exact ⟨i, j, rx.int_inv, ry.int_inv, k g H _ (Ext.refl rel) RV.int⟩
theorem opf_B0 {f : Int → Int → Bool} : OpF X (rI0 fun i j => .bl (f i j)) (iOp0 fun i j => .bl (f i j)) := by
  intro H g S p q x y w S' Q rel rx ry h k
  obtain ⟨i, j, rfl, rfl, rfl, rfl⟩ := iOp0_inv h
  exact ⟨i, j, rx.int_inv, ry.int_inv, k g H _ (Ext.refl rel) RV.bl⟩
theorem opf_I {C : Int → Int → Prop} [∀ i j, Decidable (C i j)] {f : Int → Int → Int} : OpF X (rI C fun i j => .int (f i j)) (iOp C fun i j => .int (f i j)) := by
  intro H g S p q x y w S' Q rel rx ry h k
  obtain ⟨i, j, rfl, rfl, c, rfl, rfl⟩ := iOp_inv h
  exact ⟨i, j, rx.int_inv, ry.int_inv, c, k g H _ (Ext.refl rel) RV.int⟩
instance (i j : Int) : Decidable (CDiv i j) := inferInstanceAs (Decidable (_ ∧ _))
instance (i j : Int) : Decidable (CPow i j) := inferInstanceAs (Decidable (_ ∧ _ ∧ _))
instance (i j : Int) : Decidable (CMul i j) := inferInstanceAs (Decidable (_ ∨ _))
abbrev subF : OF := iOp0 fun i j => .int (i - j)
abbrev fdivF : OF := iOp CDiv fun i j => .int (i / j)
abbrev modF : OF := iOp (fun _ j => 0 < j) fun i j => .int (i % j)
abbrev powF : OF := iOp CPow fun i j => .int (i ^ j.toNat)
abbrev ltF : OF := iOp0 fun i j => .bl (decide (i < j))
abbrev leF : OF := iOp0 fun i j => .bl (decide (i ≤ j))
abbrev gtF : OF := iOp0 fun i j => .bl (decide (j < i))
abbrev geF : OF := iOp0 fun i j => .bl (decide (j ≤ i))
def mulF (m : Bool) : OF := fun p q S => match p, q with
  | .int i, .int j => if CMul i j then some (.int (i * j), S) else none
  | p, .int k => match derefH S p with
    | some (.lst, xs) => if -(2 ^ 63) ≤ k ∧ k < 2 ^ 63 ∧ xs.length * k.toNat ≤ sizeLine then some (newP m .lst (List.replicate k.toNat xs).flatten S) else none
    | _ => none
  | _, _ => none
theorem RVs.rep {L : Nat} {xs : List PV} {vs : List V} (h : RVs Y H g L xs vs) : ∀ n, RVs Y H g L (List.replicate n xs).flatten (List.replicate n vs).flatten
  | 0 => RVs.nil
  | n + 1 => by
    rw [List.replicate_succ, List.replicate_succ, List.flatten_cons, List.flatten_cons]
    exact h.append (h.rep n)
theorem opf_mul {m : Bool} : OpF X (fun x y H Q => rI CMul (fun i j => .int (i * j)) x y H Q ∨ rRep x y H Q) (mulF m) := by
  intro H g S p q x y w S' Q rel rx ry h k
  unfold mulF at h
  split at h
  · split at h
    · simp only [Option.some.injEq, Prod.mk.injEq] at h
      obtain ⟨rfl, rfl⟩ := h
      exact Or.inl ⟨_, _, rx.int_inv, ry.int_inv, by assumption, k g H _ (Ext.refl rel) RV.int⟩
    · cases h
  · split at h
    · rename_i xs e
      split at h
      · rename_i c
        obtain ⟨a, vs, o, rfl, h2, h3, h4⟩ := derefH_ok rel rx e
        cases h3
        refine Or.inr ⟨a, _, vs, rfl, ry.int_inv, h4, c.1, c.2.1, by rw [← h2.len]; exact c.2.2, fun l hl => ?_⟩
        obtain ⟨g', e1, e2⟩ := new_ok (m := m) rel hl (k := .lst) (o := .lst _) rfl (by decide) (h2.rep _)
        simp only [Option.some.injEq] at h
        rw [h] at e1 e2
        exact k g' _ _ e1 e2
      · cases h
    · cases h
  · cases h
theorem or_mul : OpR X (binaryOp .Mult) (fun x y H Q => rI CMul (fun i j => .int (i * j)) x y H Q ∨ rRep x y H Q) := OpR.or op_mul op_rep
def addF (m : Bool) : OF := fun p q S => match p, q with
  | .int i, .int j => some (.int (i + j), S)
  | .str a, .str b => if a.length + b.length ≤ sizeLine then some (.str (a ++ b), S) else none
  | p, q => match derefH S p, derefH S q with
    | some (.lst, xs), some (.lst, ys) => if xs.length + ys.length ≤ sizeLine then some (newP m .lst (xs ++ ys) S) else none
    | some (.tup, xs), some (.tup, ys) => if xs ≠ [] ∧ xs.length + ys.length ≤ sizeLine then some (.con .own .tup (xs ++ ys), S) else none
    | _, _ => none
theorem opf_add {m : Bool} : OpF X (fun x y H Q => (rI0 (fun i j => .int (i + j)) x y H Q ∨ ∃ i j, x = .str i ∧ y = .str j ∧ i.length + j.length ≤ sizeLine ∧ Q (.str (i ++ j)) H) ∨ (rCat x y H Q ∨ rCatT X.K x y H Q)) (addF m) := by
  intro H g S p q x y w S' Q rel rx ry h k
  unfold addF at h
  split at h
  · simp only [Option.some.injEq, Prod.mk.injEq] at h
    obtain ⟨rfl, rfl⟩ := h
    exact Or.inl (Or.inl ⟨_, _, rx.int_inv, ry.int_inv, k g H _ (Ext.refl rel) RV.int⟩)
  · split at h
    · simp only [Option.some.injEq, Prod.mk.injEq] at h
      obtain ⟨rfl, rfl⟩ := h
      exact Or.inl (Or.inr ⟨_, _, rx.str_inv, ry.str_inv, by assumption, k g H _ (Ext.refl rel) RV.str⟩)
    · cases h
  · split at h
    · rename_i xs ys e1 e2
      split at h
      · rename_i c
        obtain ⟨a, vs, o, rfl, h2, h3, h4⟩ := derefH_ok rel rx e1
        obtain ⟨b, ws, o', rfl, q2, q3, q4⟩ := derefH_ok rel ry e2
        cases h3
        cases q3
        refine Or.inr (Or.inl ⟨a, b, vs, ws, rfl, rfl, h4, q4, by rw [← h2.len, ← q2.len]; exact c, fun l hl => ?_⟩)
        obtain ⟨g', z1, z2⟩ := new_ok (m := m) rel hl (k := .lst) (o := .lst _) rfl (by decide) (h2.append q2)
        simp only [Option.some.injEq] at h
        rw [h] at z1 z2
        exact k g' _ _ z1 z2
      · cases h
    · rename_i xs ys e1 e2
      split at h
      · rename_i c
        obtain ⟨a, vs, o, rfl, h2, h3, h4⟩ := derefH_ok rel rx e1
        obtain ⟨b, ws, o', rfl, q2, q3, q4⟩ := derefH_ok rel ry e2
        cases h3
        cases q3
        simp only [Option.some.injEq, Prod.mk.injEq] at h
        obtain ⟨rfl, rfl⟩ := h
        refine Or.inr (Or.inr ⟨a, b, vs, ws, rfl, rfl, SqT.of h4, SqT.of q4, fun z => c.1 ?_, by rw [← h2.len, ← q2.len]; exact c.2, fun z => ?_, fun _ l hl => ?_⟩)
        · have := h2.len
          rw [z] at this
          exact List.eq_nil_of_length_eq_zero this
        · have : ys = [] := List.eq_nil_of_length_eq_zero (by rw [q2.len, z]; rfl)
          subst this z
          refine k g H _ (Ext.refl rel) ?_
          simp only [RV, List.append_nil]
          exact ⟨a, vs, rfl, ⟨_, rfl, h4, fun z => False.elim z⟩, h2⟩
        · obtain ⟨z1, z2⟩ := newF_ok rel hl (k := .tup) (o := .tup _) rfl (h2.append q2)
          exact k _ _ _ z1 z2
      · cases h
    · cases h
theorem or_add : OpR X (binaryOp .Add) (fun x y H Q => (rI0 (fun i j => .int (i + j)) x y H Q ∨ ∃ i j, x = .str i ∧ y = .str j ∧ i.length + j.length ≤ sizeLine ∧ Q (.str (i ++ j)) H) ∨ (rCat x y H Q ∨ rCatT X.K x y H Q)) :=
  OpR.or (OpR.or op_add op_add_str) (OpR.or op_cat op_catT)
section
variable {a b c : Expr} {ta tb tc : EF} {pos : Pos}
theorem E.add (m : Bool) (ha : E X W a ta) (hb : E X W b tb) : E X W (.BinOp a .Add b pos) (eOp (addF m) ta tb) := E.op or_add opf_add ha hb
theorem E.mul (m : Bool) (ha : E X W a ta) (hb : E X W b tb) : E X W (.BinOp a .Mult b pos) (eOp (mulF m) ta tb) := E.op or_mul opf_mul ha hb
theorem E.sub (ha : E X W a ta) (hb : E X W b tb) : E X W (.BinOp a .Sub b pos) (eOp subF ta tb) := E.op op_sub opf_I0 ha hb
theorem E.fdiv (ha : E X W a ta) (hb : E X W b tb) : E X W (.BinOp a .FloorDiv b pos) (eOp fdivF ta tb) := E.op op_fdiv opf_I ha hb
theorem E.mod (ha : E X W a ta) (hb : E X W b tb) : E X W (.BinOp a .Mod b pos) (eOp modF ta tb) := E.op op_mod opf_I ha hb
theorem E.pow (ha : E X W a ta) (hb : E X W b tb) : E X W (.BinOp a .Pow b pos) (eOp powF ta tb) := E.op op_pow opf_I ha hb
end
/-! ### data at any depth -/
def toPD : Nat → Sto → PV → Option PyData
  | 0, _, _ => none
  | n + 1, S, p => match p with
    | .non => some .none
    | .bl b => some (.bool b)
    | .int i => some (.int i)
    | .str s => some (.str s)
    | p => match deref S p with
      | some (.lst, xs) => (xs.mapM (toPD n S)).map .list
      | some (.tup, xs) => (xs.mapM (toPD n S)).map .tuple
      | _ => none
theorem dp_all {f : PV → Option PyData} (rel : Rel X H g S) (hf : ∀ p x d, RV X H g S.length p x → f p = some d → Dp X.K H x d) : ∀ {xs : List PV} {vs : List V} {ds : List PyData}, RVs X H g S.length xs vs → xs.mapM f = some ds → DpAll X.K H vs ds
  | [], vs, ds, h, e => by
    simp only [RVs] at h
    subst h
    simp at e
    subst e
    exact .nil
  | x :: xs, vs, ds, h, e => by
    simp only [RVs] at h
    obtain ⟨v, r, rfl, h2, h3⟩ := h
    simp only [List.mapM_cons, Option.bind_eq_bind, Option.bind_eq_some_iff, Option.pure_def, Option.some.injEq] at e
    obtain ⟨d, e1, es, e2, rfl⟩ := e
    exact .cons (hf x v d h2 e1) (dp_all rel hf h3 e2)
theorem toPD_ok (rel : Rel X H g S) : ∀ (n : Nat) (p : PV) (x : V) (d : PyData), RV X H g S.length p x → toPD n S p = some d → Dp X.K H x d
  | 0, _, _, _, _, e => by simp [toPD] at e
  | n + 1, p, x, d, h, e => by
    simp only [toPD] at e
    split at e
    · cases e; rw [h.non_inv]; exact .non
    · cases e; rw [h.bl_inv]; exact .bl _
    · cases e; rw [h.int_inv]; exact .int _
    · cases e; rw [h.str_inv]; exact .str _
    · split at e
      · rename_i xs hd
        obtain ⟨a, vs, rfl, h2, h3⟩ := deref_ok rel h hd
        simp only [Option.map_eq_some_iff] at e
        obtain ⟨ds, e1, rfl⟩ := e
        exact .lst h3.lst (dp_all rel (toPD_ok rel n) h2 e1)
      · rename_i xs hd
        obtain ⟨a, vs, rfl, h2, h3⟩ := deref_ok rel h hd
        simp only [Option.map_eq_some_iff] at e
        obtain ⟨ds, e1, rfl⟩ := e
        exact .tup h3.tup (dp_all rel (toPD_ok rel n) h2 e1)
      · cases e
/-- == -/
def eqB (S : Sto) (p q : PV) : Option Bool := match p, q with
  | .int i, .int j => some (decide (i = j))
  | .str i, .str j => some (decide (i = j))
  | .non, .non => some true
  | .bl i, .bl j => some (decide (i = j))
  | p, q => match toPD 9 S p, toPD 9 S q with
    | some d, some e => some (PyData.eqv d e)
    | _, _ => none
/-- data as toPD gives it -/
def Pl (d : PyData) : Prop := d.plain = true ∧ d.depth ≤ 9
theorem plain_all : ∀ {n : Nat} {f : PV → Option PyData}, (∀ p d, f p = some d → d.plain = true ∧ d.depth ≤ n) → ∀ {xs : List PV} {ds : List PyData}, xs.mapM f = some ds → PyData.plainAll ds = true ∧ PyData.depthAll ds ≤ n
  | n, f, hf, [], ds, e => by
    simp at e
    subst e
    exact ⟨rfl, Nat.zero_le _⟩
  | n, f, hf, x :: xs, ds, e => by
    simp only [List.mapM_cons, Option.bind_eq_bind, Option.bind_eq_some_iff, Option.pure_def, Option.some.injEq] at e
    obtain ⟨d, e1, es, e2, rfl⟩ := e
    obtain ⟨h1, h2⟩ := hf x d e1
    obtain ⟨h3, h4⟩ := plain_all hf e2
    exact ⟨by simp only [PyData.plainAll, h1, h3, Bool.and_self], by simp only [PyData.depthAll]; omega⟩
theorem toPD_plain : ∀ (n : Nat) (p : PV) (d : PyData), toPD n S p = some d → d.plain = true ∧ d.depth ≤ n
  | 0, _, _, e => by simp [toPD] at e
  | n + 1, p, d, e => by
    simp only [toPD] at e
    split at e
    · cases e; exact ⟨rfl, Nat.zero_le _⟩
    · cases e; exact ⟨rfl, Nat.zero_le _⟩
    · cases e; exact ⟨rfl, Nat.zero_le _⟩
    · cases e; exact ⟨rfl, Nat.zero_le _⟩
    · split at e
      · simp only [Option.map_eq_some_iff] at e
        obtain ⟨ds, e1, rfl⟩ := e
        obtain ⟨h1, h2⟩ := plain_all (toPD_plain n) e1
        exact ⟨h1, by simp only [PyData.depth]; omega⟩
      · simp only [Option.map_eq_some_iff] at e
        obtain ⟨ds, e1, rfl⟩ := e
        obtain ⟨h1, h2⟩ := plain_all (toPD_plain n) e1
        exact ⟨h1, by simp only [PyData.depth]; omega⟩
      · cases e
def rEqP (K : PySem.W.Frag) : R2 := fun x y H Q => ∃ d e, Dp K H x d ∧ Dp K H y e ∧ Pl d ∧ Pl e ∧ Q (.bl (PyData.eqv d e)) H
def rNeP (K : PySem.W.Frag) : R2 := fun x y H Q => ∃ d e, Dp K H x d ∧ Dp K H y e ∧ Pl d ∧ Pl e ∧ Q (.bl (!PyData.eqv d e)) H
theorem op_eqP (hu : X.A.units + 64 < cLine) : OpR X (compareOp .Eq) (rEqP X.K) := by
  intro pins s σ H x y v u Q I rx ry h
  obtain ⟨d, e, hd, he, sd, se, q⟩ := h
  obtain ⟨as, r1⟩ := Dp.reads I d x v hd rx
  obtain ⟨bs, r2⟩ := Dp.reads I e y u he ry
  have := sd.2
  exact SeqAt.eq_plain r1 r2 sd.1 se.1 (by omega) ⟨.bl _, H, I, rfl, q⟩
theorem op_neP (hu : X.A.units + 64 < cLine) : OpR X (compareOp .NotEq) (rNeP X.K) := by
  intro pins s σ H x y v u Q I rx ry h
  obtain ⟨d, e, hd, he, sd, se, q⟩ := h
  obtain ⟨as, r1⟩ := Dp.reads I d x v hd rx
  obtain ⟨bs, r2⟩ := Dp.reads I e y u he ry
  have := sd.2
  exact SeqAt.ne_plain r1 r2 sd.1 se.1 (by omega) ⟨.bl _, H, I, rfl, q⟩
def eqF : OF := fun p q S => (eqB S p q).map fun b => (.bl b, S)
def neF : OF := fun p q S => (eqB S p q).map fun b => (.bl (!b), S)
theorem eqB_ok {r : R2} {fb : Bool → Bool} (hs : ∀ x y H Q, scal x y = true → Q (.bl (fb (decide (x = y)))) H → r x y H Q) (hd : ∀ x y d e H Q, Dp X.K H x d → Dp X.K H y e → Pl d → Pl e → Q (.bl (fb (PyData.eqv d e))) H → r x y H Q) :
    OpF X r (fun p q S => (eqB S p q).map fun b => (.bl (fb b), S)) := by
  intro H g S p q x y w S' Q rel rx ry h k
  simp only [Option.map_eq_some_iff, Prod.mk.injEq] at h
  obtain ⟨b, h, rfl, rfl⟩ := h
  have q0 := k g H _ (Ext.refl rel) RV.bl
  unfold eqB at h
  split at h
  · cases h
    rw [rx.int_inv, ry.int_inv]
    refine hs _ _ _ _ rfl ?_
    rw [dec_int, Bool.beq_eq_decide_eq]
    exact q0
  · cases h
    rw [rx.str_inv, ry.str_inv]
    refine hs _ _ _ _ rfl ?_
    rw [dec_str, Bool.beq_eq_decide_eq]
    exact q0
  · cases h
    rw [rx.non_inv, ry.non_inv]
    refine hs _ _ _ _ rfl ?_
    rw [decide_eq_true rfl]
    exact q0
  · cases h
    rw [rx.bl_inv, ry.bl_inv]
    refine hs _ _ _ _ rfl ?_
    rw [dec_bl, Bool.beq_eq_decide_eq]
    exact q0
  · split at h
    · rename_i d e hd1 he1
      cases h
      exact hd _ _ d e _ _ (toPD_ok rel 9 _ _ _ rx hd1) (toPD_ok rel 9 _ _ _ ry he1) (toPD_plain 9 _ _ hd1) (toPD_plain 9 _ _ he1) q0
    · cases h
theorem opf_eq : OpF X (fun x y H Q => rEq x y H Q ∨ rEqP X.K x y H Q) eqF :=
  eqB_ok (fb := fun b => b) (fun x y H Q h q => Or.inl ⟨h, q⟩) fun x y d e H Q h1 h2 h3 h4 q => Or.inr ⟨d, e, h1, h2, h3, h4, q⟩
theorem opf_ne : OpF X (fun x y H Q => rNe x y H Q ∨ rNeP X.K x y H Q) neF :=
  eqB_ok (fb := fun b => !b) (fun x y H Q h q => Or.inl ⟨h, q⟩) fun x y d e H Q h1 h2 h3 h4 q => Or.inr ⟨d, e, h1, h2, h3, h4, q⟩
theorem or_eq (hu : X.A.units + 64 < cLine) : OpR X (compareOp .Eq) (fun x y H Q => rEq x y H Q ∨ rEqP X.K x y H Q) := OpR.or op_eq (op_eqP hu)
theorem or_ne (hu : X.A.units + 64 < cLine) : OpR X (compareOp .NotEq) (fun x y H Q => rNe x y H Q ∨ rNeP X.K x y H Q) := OpR.or op_ne (op_neP hu)
/-! ### in -/
def flatP : PV → Bool
  | .non => true
  | .bl _ => true
  | .int _ => true
  | .str _ => true
  | _ => false
def eqP : PV → PV → Bool
  | .non, .non => true
  | .bl a, .bl b => a == b
  | .bl a, .int b => (if a then 1 else 0) == b
  | .int a, .bl b => a == (if b then 1 else 0)
  | .int a, .int b => a == b
  | .str a, .str b => a == b
  | _, _ => false
theorem flat_rv {L : Nat} {p : PV} {x : V} (h : RV X H g L p x) (f : flatP p = true) : flatV x = true := by
  cases p with
  | non => rw [h.non_inv] <;> rfl
  | bl _ => rw [h.bl_inv] <;> rfl
  | int _ => rw [h.int_inv] <;> rfl
  | str _ => rw [h.str_inv] <;> rfl
  | con _ _ _ => cases f
  | ref _ => cases f
  | fn _ => cases f
  | ty _ => cases f
theorem eqP_rv {L : Nat} {p q : PV} {x y : V} (h : RV X H g L p x) (h' : RV X H g L q y) (f : flatP p = true) (f' : flatP q = true) : L2.eqV x y = eqP p q := by
  cases p <;> cases q <;> first
    | (simp [flatP] at f; done)
    | (simp [flatP] at f'; done)
    | (simp only [RV] at h h'; subst h h'; simp only [L2.eqV, eqP])
theorem inP_rv {L : Nat} {p : PV} {x : V} (h : RV X H g L p x) (f : flatP p = true) : ∀ {xs : List PV} {vs : List V}, RVs X H g L xs vs → xs.all flatP = true → vs.all flatV = true ∧ inV x vs = xs.any (fun y => eqP y p)
  | [], vs, k, _ => by
    simp only [RVs] at k
    subst k
    exact ⟨rfl, rfl⟩
  | q :: xs, vs, k, fs => by
    simp only [RVs] at k
    obtain ⟨v, r, rfl, k2, k3⟩ := k
    simp only [List.all_cons, Bool.and_eq_true] at fs
    obtain ⟨i1, i2⟩ := inP_rv h f k3 fs.2
    refine ⟨by simp only [List.all_cons, Bool.and_eq_true]; exact ⟨flat_rv k2 fs.1, i1⟩, ?_⟩
    unfold inV at i2 ⊢
    rw [List.any_cons, List.any_cons, i2, eqP_rv k2 h fs.1 f]
def inB (S : Sto) (p q : PV) : Option Bool := match p, q with
  | .str c, .str z => match c.cps.toList with
    | [n] => some (decide (n ∈ z.cps.toList))
    | _ => none
  | p, q => match deref S q with
    | some (k, ys) => if (k = .lst ∨ k = .tup) ∧ flatP p = true ∧ ys.all flatP = true then some (ys.any fun y => eqP y p)
      else if k = .lst ∨ k = .tup then match toPD 9 S p, ys.mapM (toPD 8 S) with
        | some d, some ds => some (ds.any fun z => PyData.eqv z d)
        | _, _ => none
      else none
    | _ => none
def inF : OF := fun p q S => (inB S p q).map fun b => (.bl b, S)
def ninF : OF := fun p q S => (inB S p q).map fun b => (.bl (!b), S)
theorem one_sign {c : Str} {n : Nat} (h : c.cps.toList = [n]) : c = ⟨#[n]⟩ := by
  obtain ⟨a⟩ := c
  have : a = #[n] := by
    have h : a.toList = [n] := h
    rw [← Array.toArray_toList (xs := a), h]
  rw [this]
theorem inB_ok {r : R2} {fb : Bool → Bool} (hs : ∀ c z H Q, Q (.bl (fb (decide (c ∈ z.cps.toList)))) H → r (.str ⟨#[c]⟩) (.str z) H Q)
    (hf : ∀ x p ys H Q, (SqL X.K H p ys ∨ SqT X.K H p ys) → flatV x = true → ys.all flatV = true → Q (.bl (fb (inV x ys))) H → r x (.ref p) H Q)
    (hd : ∀ x y d ds H Q, Dp X.K H x d → (Dp X.K H y (.list ds) ∨ Dp X.K H y (.tuple ds)) → Pl d → PyData.plainAll ds = true → Q (.bl (fb (ds.any fun z => PyData.eqv z d))) H → r x y H Q) :
    OpF X r (fun p q S => (inB S p q).map fun b => (.bl (fb b), S)) := by
  intro H g S p q x y w S' Q rel rx ry h k
  simp only [Option.map_eq_some_iff, Prod.mk.injEq] at h
  obtain ⟨b, h, rfl, rfl⟩ := h
  have q0 := k g H _ (Ext.refl rel) RV.bl
  unfold inB at h
  split at h
  · split at h
    · rename_i n e
      cases h
      rw [rx.str_inv, ry.str_inv, one_sign e]
      exact hs _ _ _ _ q0
    · cases h
  · split at h
    · rename_i k ys e
      obtain ⟨a, vs, rfl, h2, h3⟩ := deref_ok rel ry e
      split at h
      · rename_i c
        cases h
        obtain ⟨i1, i2⟩ := inP_rv rx c.2.1 h2 c.2.2
        refine hf _ a vs _ _ ?_ (flat_rv rx c.2.1) i1 (by rw [i2]; exact q0)
        rcases c.1 with rfl | rfl
        · exact Or.inl h3.lst
        · exact Or.inr h3.tup
      · split at h
        · rename_i hk
          split at h
          · rename_i d ds e1 e2
            cases h
            refine hd _ _ d ds _ _ (toPD_ok rel 9 _ _ _ rx e1) ?_ (toPD_plain 9 _ _ e1) (plain_all (toPD_plain 8) e2).1 q0
            rcases hk with rfl | rfl
            · exact Or.inl (.lst h3.lst (dp_all rel (toPD_ok rel 8) h2 e2))
            · exact Or.inr (.tup h3.tup (dp_all rel (toPD_ok rel 8) h2 e2))
          · cases h
        · cases h
    · cases h
end
end Pv
/-! Pv4: expressions. -/
namespace Pv
open PySem PySem.Spec PyProof.Rows L2
section
variable {X : Cx} {H H' H'' : Hp} {g g' g'' : G} {S S' S'' : Sto} {W : WX} {a b c e o : Expr} {es rest : List Expr} {ta tb tc to : EF} {pos : Pos}
/-! ### comparisons -/
theorem E.cmp {op : CmpOp} {r : R2} {f : OF} (ho : OpR X (compareOp op) r) (hf : OpF X r f) (ha : E X W a ta) (hb : E X W b tb) (hm : behindInMarks op b = false) : E X W (.Compare a [op] [b] pos) (eOp f ta tb) :=
  pe_imp (pe_cmpR ho ha hb hm) fun _ _ _ h => lift_op hf h
theorem E.lt (ha : E X W a ta) (hb : E X W b tb) : E X W (.Compare a [.Lt] [b] pos) (eOp ltF ta tb) := E.cmp op_lt opf_B0 ha hb (nomark _)
theorem E.le (ha : E X W a ta) (hb : E X W b tb) : E X W (.Compare a [.LtE] [b] pos) (eOp leF ta tb) := E.cmp op_le opf_B0 ha hb (nomark _)
theorem E.gt (ha : E X W a ta) (hb : E X W b tb) : E X W (.Compare a [.Gt] [b] pos) (eOp gtF ta tb) := E.cmp op_gt opf_B0 ha hb (nomark _)
theorem E.ge (ha : E X W a ta) (hb : E X W b tb) : E X W (.Compare a [.GtE] [b] pos) (eOp geF ta tb) := E.cmp op_ge opf_B0 ha hb (nomark _)
theorem E.eq (hu : X.A.units + 64 < cLine) (ha : E X W a ta) (hb : E X W b tb) : E X W (.Compare a [.Eq] [b] pos) (eOp eqF ta tb) := E.cmp (or_eq hu) opf_eq ha hb (nomark _)
theorem E.ne (hu : X.A.units + 64 < cLine) (ha : E X W a ta) (hb : E X W b tb) : E X W (.Compare a [.NotEq] [b] pos) (eOp neF ta tb) := E.cmp (or_ne hu) opf_ne ha hb (nomark _)
/-- is None, is not None -/
def isNP : PV → Bool
  | .non => true
  | _ => false
theorem isNP_rv {L : Nat} {p : PV} {x : V} (h : RV X H g L p x) : decide (x = V.non) = isNP p := by
  cases p with
  | con m k xs => simp only [RV] at h; obtain ⟨a, vs, rfl, _⟩ := h; rfl
  | ref n => simp only [RV] at h; obtain ⟨_, rfl⟩ := h; rfl
  | fn x => simp only [RV] at h; obtain ⟨a, _, rfl⟩ := h; rfl
  | ty x => simp only [RV] at h; subst h; rfl
  | non => rw [h.non_inv] <;> rfl
  | bl _ => rw [h.bl_inv] <;> rfl
  | int _ => rw [h.int_inv] <;> rfl
  | str _ => rw [h.str_inv] <;> rfl
def eU (f : PV → PV) (t : EF) : EF := fun Γ S => (t Γ S).bind fun p S1 => .ok (f p) S1
/-- chains -/
def eChain (f f' : OF) (ta tb tc : EF) : EF := fun Γ S => (ta Γ S).bind fun x S1 => (tb Γ S1).bind fun y S2 => (R.of (f x y S2)).bind fun z S3 => match z with
  | .bl true => (tc Γ S3).bind fun w S4 => R.of (f' y w S4)
  | .bl false => .ok (.bl false) S3
  | _ => .bad
/-! ### tests -/
def bE (t : EF) : BF := fun Γ S => (t Γ S).bind fun v S1 => match v with
  | .bl b => .ok b S1
  | _ => .bad
theorem liftB_E {t : EF} {σ : L2.St} {H : Hp} {Q : Bool → Hp → Prop} (h : liftB X W (bE t) σ H Q) : lift X W t σ H fun x H' => ∃ k, x = .bl k ∧ Q k H' := by
  obtain ⟨g, Γ, S, rel, rg, ok⟩ := h
  refine ⟨g, Γ, S, rel, rg, OKw.mono (OKw.bind ok) fun p S1 g1 H1 _ e1 h1 x rx => ?_⟩
  split at h1
  · exact ⟨_, rx.bl_inv, OKw.ok e1.rel h1⟩
  · exact h1.elim
theorem B.cmp {op : CmpOp} {r : R2} {f : OF} (ho : OpR X (compareOp op) r) (hf : OpF X r f) (ha : E X W a ta) (hb : E X W b tb) (hm : behindInMarks op b = false) : B X W (.Compare a [op] [b] pos) (bE (eOp f ta tb)) :=
  pt_imp (pt_cmpR ho ha hb hm) fun σ H Q h => lift_op hf (liftB_E h)
theorem B.lt (ha : E X W a ta) (hb : E X W b tb) : B X W (.Compare a [.Lt] [b] pos) (bE (eOp ltF ta tb)) := B.cmp op_lt opf_B0 ha hb (nomark _)
theorem B.le (ha : E X W a ta) (hb : E X W b tb) : B X W (.Compare a [.LtE] [b] pos) (bE (eOp leF ta tb)) := B.cmp op_le opf_B0 ha hb (nomark _)
theorem B.gt (ha : E X W a ta) (hb : E X W b tb) : B X W (.Compare a [.Gt] [b] pos) (bE (eOp gtF ta tb)) := B.cmp op_gt opf_B0 ha hb (nomark _)
theorem B.ge (ha : E X W a ta) (hb : E X W b tb) : B X W (.Compare a [.GtE] [b] pos) (bE (eOp geF ta tb)) := B.cmp op_ge opf_B0 ha hb (nomark _)
theorem B.eq (hu : X.A.units + 64 < cLine) (ha : E X W a ta) (hb : E X W b tb) : B X W (.Compare a [.Eq] [b] pos) (bE (eOp eqF ta tb)) := B.cmp (or_eq hu) opf_eq ha hb (nomark _)
theorem B.ne (hu : X.A.units + 64 < cLine) (ha : E X W a ta) (hb : E X W b tb) : B X W (.Compare a [.NotEq] [b] pos) (bE (eOp neF ta tb)) := B.cmp (or_ne hu) opf_ne ha hb (nomark _)
/-- a comparison's reading as a test -/
theorem B.ofPC {op : CmpOp} {t : TE} {te : EF} (h : PC X op a b t) (k : ∀ σ H Q, lift X W te σ H Q → t σ H Q) (h1 : behindInMarks op b = false) : B X W (.Compare a [op] [b] pos) (bE te) :=
  pt_imp (pt_cmp h h1) fun σ H Q q => k _ _ _ (liftB_E q)
theorem isN_imp {σ : L2.St} {H : Hp} {Q : VK} (h : lift X W (eU (fun p => .bl (isNP p)) ta) σ H Q) : tIsN (lift X W ta) σ H Q := by
  obtain ⟨g, Γ, S, rel, rg, ok⟩ := h
  exact ⟨g, Γ, S, rel, rg, OKw.mono (OKw.bind ok) fun p S1 g1 H1 _ e1 h1 x rx => by
    show Q (.bl (decide (x = V.non))) H1
    rw [isNP_rv rx]
    exact OKw.ok e1.rel h1 _ RV.bl⟩
theorem notN_imp {σ : L2.St} {H : Hp} {Q : VK} (h : lift X W (eU (fun p => .bl (!isNP p)) ta) σ H Q) : tNotN (lift X W ta) σ H Q := by
  obtain ⟨g, Γ, S, rel, rg, ok⟩ := h
  exact ⟨g, Γ, S, rel, rg, OKw.mono (OKw.bind ok) fun p S1 g1 H1 _ e1 h1 x rx => by
    show Q (.bl (!decide (x = V.non))) H1
    rw [isNP_rv rx]
    exact OKw.ok e1.rel h1 _ RV.bl⟩
theorem E.isN {j pos'} (ha : E X W a ta) : E X W (.Compare a [.Is] [.Constant .none j pos'] pos) (eU (fun p => .bl (isNP p)) ta) := pe_imp (pe_cmp (pc_isN ha) (nomark _)) fun _ _ _ h => isN_imp h
theorem E.notN {j pos'} (ha : E X W a ta) : E X W (.Compare a [.IsNot] [.Constant .none j pos'] pos) (eU (fun p => .bl (!isNP p)) ta) := pe_imp (pe_cmp (pc_notN ha) (nomark _)) fun _ _ _ h => notN_imp h
theorem B.isN {j pos'} (ha : E X W a ta) : B X W (.Compare a [.Is] [.Constant .none j pos'] pos) (bE (eU (fun p => .bl (isNP p)) ta)) := B.ofPC (pc_isN ha) (fun _ _ _ h => isN_imp h) (nomark _)
theorem B.notN {j pos'} (ha : E X W a ta) : B X W (.Compare a [.IsNot] [.Constant .none j pos'] pos) (bE (eU (fun p => .bl (!isNP p)) ta)) := B.ofPC (pc_notN ha) (fun _ _ _ h => notN_imp h) (nomark _)
theorem chain_imp {r r' : R2} {f f' : OF} (hf : OpF X r f) (hf' : OpF X r' f') {σ : L2.St} {H : Hp} {Q : VK} (h : lift X W (eChain f f' ta tb tc) σ H Q) : tChain r r' (lift X W ta) (lift X W tb) (lift X W tc) σ H Q := by
  obtain ⟨g, Γ, S, rel, rg, ok⟩ := h
  refine ⟨g, Γ, S, rel, rg, OKw.mono (OKw.bind ok) fun p S1 g1 H1 _ e1 h1 x rx => ?_⟩
  refine ⟨g1, Γ, S1, e1.rel, rg.up rel e1, OKw.mono (OKw.bind h1) fun q S2 g2 H2 _ e2 h2 y ry => ?_⟩
  have rx2 := RV.up e1.rel e2 p x rx
  cases hw : f p q S2 with
  | none => rw [hw] at h2; exact h2.elim
  | some z =>
    obtain ⟨w, S3⟩ := z
    rw [hw] at h2
    refine hf H2 g2 S2 p q x y w S3 _ e2.rel rx2 ry hw fun g3 H3 z e3 rz => ?_
    have h2 : OKw X W σ H2 g2 S2 (match w with
      | .bl true => (tc Γ S3).bind fun w S4 => R.of (f' q w S4)
      | .bl false => .ok (.bl false) S3
      | _ => .bad) _ := h2
    split at h2
    · refine ⟨true, rz.bl_inv, ?_⟩
      rw [if_pos rfl]
      refine ⟨g3, Γ, S3, e3.rel, ((rg.up rel e1).up e1.rel e2).up e2.rel e3, ?_⟩
      have h3 : OKw X W σ H3 g3 S3 ((tc Γ S3).bind fun w S4 => R.of (f' q w S4)) (fun v S' g' H' => ∀ x, RV X H' g' S'.length v x → Q x H') := by
        cases hr : (tc Γ S3).bind fun w S4 => R.of (f' q w S4) with
        | ok v S' => rw [hr] at h2; exact fun g' H' e' => h2 g' H' (e3.trans e')
        | ex c fs S' => rw [hr] at h2; exact fun g' H' cls d e' => h2 g' H' cls d (e3.trans e')
        | bad => rw [hr] at h2; exact h2
      refine OKw.mono (OKw.bind h3) fun w4 S4 g4 H4 _ e4 h4 z4 r4 => ?_
      cases hv : f' q w4 S4 with
      | none => rw [hv] at h4; exact h4.elim
      | some z =>
        obtain ⟨w5, S5⟩ := z
        rw [hv] at h4
        exact hf' H4 g4 S4 q w4 y z4 w5 S5 Q e4.rel (RV.up e3.rel e4 _ _ (RV.up e2.rel e3 _ _ ry)) r4 hv fun g' H' z e5 rz => h4 g' H' e5 z rz
    · refine ⟨false, rz.bl_inv, ?_⟩
      rw [if_neg Bool.false_ne_true]
      exact h2 g3 H3 e3 _ RV.bl
    · exact h2.elim
theorem E.chain {op op' : CmpOp} {r r' : R2} {f f' : OF} (ho : OpR X (compareOp op) r) (ho' : OpR X (compareOp op') r') (hf : OpF X r f) (hf' : OpF X r' f') (ha : E X W a ta) (hb : E X W b tb) (hc : E X W c tc)
    (hm : lastMarks [op, op'] [b, c] = false := by with_unfolding_all rfl) : E X W (.Compare a [op, op'] [b, c] pos) (eChain f f' ta tb tc) :=
  pe_imp (pe_chain ho ho' ha hb hc hm) fun σ H Q h => chain_imp hf hf' h
theorem B.chain {op op' : CmpOp} {r r' : R2} {f f' : OF} (ho : OpR X (compareOp op) r) (ho' : OpR X (compareOp op') r') (hf : OpF X r f) (hf' : OpF X r' f') (ha : E X W a ta) (hb : E X W b tb) (hc : E X W c tc)
    (hm : lastMarks [op, op'] [b, c] = false := by with_unfolding_all rfl) : B X W (.Compare a [op, op'] [b, c] pos) (bE (eChain f f' ta tb tc)) :=
  pt_imp (pt_chain ho ho' ha hb hc hm) fun σ H Q h => chain_imp hf hf' (liftB_E h)
/-- truth -/
def truB (S : Sto) (p : PV) : Option Bool := match p with
  | .non => some false
  | .bl b => some b
  | .int i => some (decide (i ≠ 0))
  | p => match deref S p with
    | some (.lst, xs) => some (!xs.isEmpty)
    | some (.tup, xs) => some (!xs.isEmpty)
    | _ => none
def bT (t : EF) : BF := fun Γ S => (t Γ S).bind fun v S1 => match truB S1 v with
  | some b => .ok b S1
  | none => .bad
theorem RVs.isEmpty {L : Nat} {xs : List PV} {vs : List V} (h : RVs X H g L xs vs) : (!xs.isEmpty) = !vs.isEmpty := by
  have := h.len
  cases xs <;> cases vs <;> simp_all
theorem truB_ok {p : PV} {x : V} {b : Bool} (rel : Rel X H g S) (rx : RV X H g S.length p x) (h : truB S p = some b) : TruV X.K x H b := by
  unfold truB at h
  split at h
  · cases h; rw [rx.non_inv]; exact rfl
  · cases h; rw [rx.bl_inv]; exact rfl
  · rename_i i
    cases h; rw [rx.int_inv]
    show decide (i ≠ 0) = (i != 0)
    by_cases z : i = 0 <;> simp [z]
  · split at h
    · rename_i xs e
      obtain ⟨a, vs, rfl, h2, h3⟩ := deref_ok rel rx e
      cases h
      exact Or.inl ⟨vs, h3.lst, h2.isEmpty⟩
    · rename_i xs e
      obtain ⟨a, vs, rfl, h2, h3⟩ := deref_ok rel rx e
      cases h
      exact Or.inr (Or.inl ⟨vs, h3.tup, h2.isEmpty⟩)
    · cases h
theorem B.tru (ha : E X W a ta) (he : ∀ whole, isTrue a X.env whole = (do let v ← whole; standAt a.pos; holding [v] (truthy v)) := by intro _; rfl) : B X W a (bT ta) :=
  pt_imp (pt_truth ha he) fun σ H Q ⟨g, Γ, S, rel, rg, ok⟩ => ⟨g, Γ, S, rel, rg, OKw.mono (OKw.bind ok) fun p S1 g1 H1 _ e1 h1 x rx => by
    split at h1
    · rename_i b hb
      exact ⟨b, truB_ok e1.rel rx hb, OKw.ok e1.rel h1⟩
    · exact h1.elim⟩
/-- and, or, not -/
def BW (X : Cx) (W : WX) (e : Expr) (t : BF) : Prop := PW X e (liftB X W t)
def bAnd (s t : BF) : BF := fun Γ S => (s Γ S).bind fun k S1 => if k = true then t Γ S1 else .ok false S1
def bOr (s t : BF) : BF := fun Γ S => (s Γ S).bind fun k S1 => if k = true then .ok true S1 else t Γ S1
def bNot (s : BF) : BF := fun Γ S => (s Γ S).bind fun k S1 => .ok (!k) S1
variable {sa sb : BF}
theorem pw_imp {e : Expr} {t t' : TT} (h : PW X e t) (k : ∀ σ H Q, t' σ H Q → t σ H Q) : PW X e t' := ⟨fun whole pins s σ H Q I q => h.run whole pins s σ H Q I (k σ H Q q)⟩
theorem BW.and1 (ha : B X W a sa) : BW X W (.BoolOp .And [a] pos) sa := pw_and1 ha
theorem BW.or1 (ha : B X W a sa) : BW X W (.BoolOp .Or [a] pos) sa := pw_or1 ha
theorem BW.and (ha : B X W a sa) (hb : BW X W (.BoolOp .And (b :: rest) pos) sb) : BW X W (.BoolOp .And (a :: b :: rest) pos) (bAnd sa sb) :=
  pw_imp (pw_and ha hb) fun σ H Q ⟨g, Γ, S, rel, rg, ok⟩ => ⟨g, Γ, S, rel, rg, OKw.mono (OKw.bind ok) fun k S1 g1 H1 _ e1 h1 => by
    cases k with
    | true => rw [if_pos rfl] at h1 ⊢; exact ⟨g1, Γ, S1, e1.rel, rg.up rel e1, h1⟩
    | false => rw [if_neg Bool.false_ne_true] at h1 ⊢; exact OKw.ok e1.rel h1⟩
theorem BW.or (ha : B X W a sa) (hb : BW X W (.BoolOp .Or (b :: rest) pos) sb) : BW X W (.BoolOp .Or (a :: b :: rest) pos) (bOr sa sb) :=
  pw_imp (pw_or ha hb) fun σ H Q ⟨g, Γ, S, rel, rg, ok⟩ => ⟨g, Γ, S, rel, rg, OKw.mono (OKw.bind ok) fun k S1 g1 H1 _ e1 h1 => by
    cases k with
    | true => rw [if_pos rfl] at h1 ⊢; exact OKw.ok e1.rel h1
    | false => rw [if_neg Bool.false_ne_true] at h1 ⊢; exact ⟨g1, Γ, S1, e1.rel, rg.up rel e1, h1⟩⟩
theorem BW.t (h : BW X W e sa) : B X W e sa := PW.pt h
theorem B.not (ha : B X W a sa) : B X W (.UnaryOp .Not a pos) (bNot sa) :=
  pt_imp (pt_not ha) fun σ H Q ⟨g, Γ, S, rel, rg, ok⟩ => ⟨g, Γ, S, rel, rg, OKw.mono (OKw.bind ok) fun k S1 g1 H1 _ e1 h1 => OKw.ok e1.rel h1⟩
/-- as values -/
def eAnd (s t : EF) : EF := fun Γ S => (s Γ S).bind fun v S1 => match v with
  | .bl true => t Γ S1
  | .bl false => .ok (.bl false) S1
  | _ => .bad
def eOr (s t : EF) : EF := fun Γ S => (s Γ S).bind fun v S1 => match v with
  | .bl true => .ok (.bl true) S1
  | .bl false => t Γ S1
  | _ => .bad
def eNot (s : EF) : EF := fun Γ S => (s Γ S).bind fun v S1 => match v with
  | .bl k => .ok (.bl (!k)) S1
  | _ => .bad
theorem E.one {op} (h : E X W a ta) : E X W (.BoolOp op [a] pos) ta := pe_one h
theorem E.and (ha : E X W a ta) (hb : E X W (.BoolOp .And (b :: rest) pos) tb) : E X W (.BoolOp .And (a :: b :: rest) pos) (eAnd ta tb) :=
  pe_imp (pe_and ha hb) fun σ H Q ⟨g, Γ, S, rel, rg, ok⟩ => ⟨g, Γ, S, rel, rg, OKw.mono (OKw.bind ok) fun p S1 g1 H1 _ e1 h1 x rx => by
    split at h1
    · exact ⟨true, rx.bl_inv, by rw [if_pos rfl]; exact ⟨g1, Γ, S1, e1.rel, rg.up rel e1, h1⟩⟩
    · exact ⟨false, rx.bl_inv, by rw [if_neg Bool.false_ne_true]; exact OKw.ok e1.rel h1 _ RV.bl⟩
    · exact h1.elim⟩
theorem E.or (ha : E X W a ta) (hb : E X W (.BoolOp .Or (b :: rest) pos) tb) : E X W (.BoolOp .Or (a :: b :: rest) pos) (eOr ta tb) :=
  pe_imp (pe_or ha hb) fun σ H Q ⟨g, Γ, S, rel, rg, ok⟩ => ⟨g, Γ, S, rel, rg, OKw.mono (OKw.bind ok) fun p S1 g1 H1 _ e1 h1 x rx => by
    split at h1
    · exact ⟨true, rx.bl_inv, by rw [if_pos rfl]; exact OKw.ok e1.rel h1 _ RV.bl⟩
    · exact ⟨false, rx.bl_inv, by rw [if_neg Bool.false_ne_true]; exact ⟨g1, Γ, S1, e1.rel, rg.up rel e1, h1⟩⟩
    · exact h1.elim⟩
theorem E.not (ha : E X W a ta) : E X W (.UnaryOp .Not a pos) (eNot ta) :=
  pe_imp (pe_not ha) fun σ H Q ⟨g, Γ, S, rel, rg, ok⟩ => ⟨g, Γ, S, rel, rg, OKw.mono (OKw.bind ok) fun p S1 g1 H1 _ e1 h1 x rx => by
    split at h1
    · exact ⟨_, rx.bl_inv, OKw.ok e1.rel h1 _ RV.bl⟩
    · exact h1.elim⟩
def eIf (s : BF) (ta tb : EF) : EF := fun Γ S => (s Γ S).bind fun k S1 => if k = true then ta Γ S1 else tb Γ S1
/-- - a -/
def eNeg (s : EF) : EF := fun Γ S => (s Γ S).bind fun v S1 => match v with
  | .int i => .ok (.int (-i)) S1
  | _ => .bad
theorem E.neg (hn : UnR X (unaryOp .USub) (rU fun i => .int (-i))) (ha : E X W a ta) : E X W (.UnaryOp .USub a pos) (eNeg ta) :=
  pe_imp (pe_un hn ha) fun σ H Q ⟨g, Γ, S, rel, rg, ok⟩ => ⟨g, Γ, S, rel, rg, OKw.mono (OKw.bind ok) fun p S1 g1 H1 _ e1 h1 x rx => by
    split at h1
    · exact ⟨_, rx.int_inv, OKw.ok e1.rel h1 _ RV.int⟩
    · exact h1.elim⟩
/-! ### rows of arguments, displays -/
def aNil : AF := fun _ S => .ok [] S
def aCons (t : EF) (r : AF) : AF := fun Γ S => (t Γ S).bind fun v S1 => (r Γ S1).bind fun vs S2 => .ok (v :: vs) S2
variable {tr : AF}
theorem A.nil : A X W [] aNil := pa_imp pa_nil fun σ H Q ⟨g, Γ, S, rel, rg, ok⟩ => OKw.ok rel ok [] RVs.nil
theorem A.cons (ha : E X W e ta) (hr : A X W es tr) (hs : starEach (e :: es) X.env = (false, eval e X.env) :: starEach es X.env := by rfl) : A X W (e :: es) (aCons ta tr) :=
  pa_imp (pa_cons ha hr hs) fun σ H Q ⟨g, Γ, S, rel, rg, ok⟩ => ⟨g, Γ, S, rel, rg, OKw.mono (OKw.bind ok) fun p S1 g1 H1 _ e1 h1 x rx =>
    ⟨g1, Γ, S1, e1.rel, rg.up rel e1, OKw.mono (OKw.bind h1) fun ps S2 g2 H2 _ e2 h2 xs rxs => OKw.ok e2.rel h2 _ (RVs.cons (RV.up e1.rel e2 _ _ rx) rxs)⟩⟩
def eTup (t : AF) : EF := fun Γ S => (t Γ S).bind fun vs S1 => if vs.length ≤ sizeLine then .ok (.con .own .tup vs) S1 else .bad
def eLst (m : Bool) (t : AF) : EF := fun Γ S => (t Γ S).bind fun vs S1 => if vs.length ≤ sizeLine then .ok (newP m .lst vs S1).1 (newP m .lst vs S1).2 else .bad
theorem E.tup {x1} (h : A X W es tr) : E X W (.Tuple es x1 pos) (eTup tr) :=
  pe_imp (pe_tup h) fun σ H Q ⟨g, Γ, S, rel, rg, ok⟩ => ⟨g, Γ, S, rel, rg, OKw.mono (OKw.bind ok) fun ps S1 g1 H1 _ e1 h1 xs rxs => by
    split at h1
    · refine ⟨by rw [← rxs.len]; assumption, fun p hp => ?_⟩
      obtain ⟨z1, z2⟩ := newF_ok e1.rel hp (k := .tup) (o := .tup _) rfl rxs
      exact h1 _ _ z1 _ z2
    · exact h1.elim⟩
theorem E.lst (m : Bool) (h : A X W es tr) : E X W (.List es pos) (eLst m tr) :=
  pe_imp (pe_lst h) fun σ H Q ⟨g, Γ, S, rel, rg, ok⟩ => ⟨g, Γ, S, rel, rg, OKw.mono (OKw.bind ok) fun ps S1 g1 H1 _ e1 h1 xs rxs => by
    split at h1
    · refine ⟨by rw [← rxs.len]; assumption, fun p hp => ?_⟩
      obtain ⟨g', z1, z2⟩ := new_ok (m := m) e1.rel hp (k := .lst) (o := .lst _) rfl (by decide) rxs
      exact h1 _ _ z1 _ z2
    · exact h1.elim⟩
/-! ### subscripts -/
def ixB (S : Sto) (p q : PV) : Option PV := match q with
  | .int i => match p with
    | .str z => if z.length ≤ sizeLine then (atI z.cps.toList i).map fun c => .str ⟨#[c]⟩ else none
    | p => match deref S p with
      | some (.lst, xs) => atI xs i
      | some (.tup, xs) => atI xs i
      | _ => none
  | _ => none
def ixF : OF := fun p q S => (ixB S p q).map fun v => (v, S)
theorem RVs.atI {L : Nat} {xs : List PV} {vs : List V} {i : Int} {p : PV} (h : RVs X H g L xs vs) (e : L2.atI xs i = some p) : ∃ v, L2.atI vs i = some v ∧ RV X H g L p v := by
  unfold L2.atI at e ⊢
  rw [← h.len]
  cases q : ixN xs.length i with
  | none => rw [q] at e; cases e
  | some j =>
    rw [q] at e
    exact h.get (i := j) e
theorem opf_ix : OpF X (rIx X.K) ixF := by
  intro H g S p q x y w S' Q rel rx ry h k
  simp only [ixF, Option.map_eq_some_iff, Prod.mk.injEq] at h
  obtain ⟨v, h, rfl, rfl⟩ := h
  unfold ixB at h
  split at h
  · split at h
    · split at h
      · rename_i hz
        simp only [Option.map_eq_some_iff] at h
        obtain ⟨c, h, rfl⟩ := h
        exact Or.inr (Or.inr ⟨_, _, c, rx.str_inv, ry.int_inv, hz, h, k g H _ (Ext.refl rel) RV.str⟩)
      · cases h
    · split at h
      · rename_i xs e
        obtain ⟨a, vs, rfl, h2, h3⟩ := deref_ok rel rx e
        obtain ⟨z, q1, q2⟩ := h2.atI h
        exact Or.inl ⟨a, vs, _, z, rfl, ry.int_inv, h3.lst, q1, k g H _ (Ext.refl rel) q2⟩
      · rename_i xs e
        obtain ⟨a, vs, rfl, h2, h3⟩ := deref_ok rel rx e
        obtain ⟨z, q1, q2⟩ := h2.atI h
        exact Or.inr (Or.inl ⟨a, vs, _, z, rfl, ry.int_inv, h3.tup, q1, k g H _ (Ext.refl rel) q2⟩)
      · cases h
  · cases h
theorem E.ix (ha : E X W a ta) (hb : E X W b tb) (hs : PlainIx b := by exact fun _ _ => rfl) : E X W (.Subscript a b pos) (eOp ixF ta tb) :=
  pe_imp (pe_ix ix_seq ha hb hs) fun _ _ _ h => lift_op opf_ix h
/-! ### calls of what is built in -/
abbrev CF := List PV → Sto → Option (PV × Sto)
def eCall (f : CF) (t : AF) : EF := fun Γ S => (t Γ S).bind fun ps S1 => R.of (f ps S1)
def CallF (X : Kx) (r : List V → Hp → VK → Prop) (f : CF) : Prop := ∀ (H : Hp) (g : G) (S : Sto) (ps : List PV) (xs : List V) (w : PV) (S' : Sto) (Q : VK), Rel X H g S → RVs X H g S.length ps xs → f ps S = some (w, S') →
  (∀ g' H' z, Ext X H g S H' g' S' → RV X H' g' S'.length w z → Q z H') → r xs H Q
theorem lift_call {r : List V → Hp → VK → Prop} {f : CF} (hf : CallF X r f) {σ : L2.St} {H : Hp} {Q : VK} (h : lift X W (eCall f tr) σ H Q) : liftA X W tr σ H fun xs H1 => r xs H1 Q := by
  obtain ⟨g, Γ, S, rel, rg, ok⟩ := h
  refine ⟨g, Γ, S, rel, rg, OKw.mono (OKw.bind ok) fun ps S1 g1 H1 _ e1 h1 xs rxs => ?_⟩
  cases hw : f ps S1 with
  | none => rw [hw] at h1; exact h1.elim
  | some z =>
    obtain ⟨w, S2⟩ := z
    rw [hw] at h1
    exact hf H1 g1 S1 ps xs w S2 Q e1.rel rxs hw fun g' H' z e2 rz => h1 g' H' e2 z rz
variable {x : Str} {p : Pos} {id T : String}
theorem E.callB {r : List V → Hp → VK → Prop} {f : CF} (hc : CallR X (.builtin id) r) (hf : CallF X r f) (hg : Gl X x) (hm : X.mg x = none) (hv : bootBuiltins x = some (.builtin id)) (ha : A X W (e :: es) tr) (hn : x ≠ "__name__" := by decide) (hdb : (x == ("__debug__" : Str)) = false := by decide)
    (he : starEach (e :: es) X.env = (false, eval e X.env) :: starEach es X.env := by rfl) (hpl : (backTo pos (starEach es X.env)).any (·.1) = false := by rfl) : E X W (.Call (.Name x p) (e :: es) [] pos) (eCall f tr) :=
  pe_imp (pe_callB hc hg hm hv ha hn hdb he hpl) fun _ _ _ h => lift_call hf h
theorem E.callTy {r : List V → Hp → VK → Prop} {f : CF} (hc : CallR X (.type T) r) (hf : CallF X r f) (hg : Gl X x) (hm : X.mg x = none) (hv : bootBuiltins x = some (.type T)) (ha : A X W (e :: es) tr) (hn : x ≠ "__name__" := by decide) (hdb : (x == ("__debug__" : Str)) = false := by decide)
    (he : starEach (e :: es) X.env = (false, eval e X.env) :: starEach es X.env := by rfl) (hpl : (backTo pos (starEach es X.env)).any (·.1) = false := by rfl) : E X W (.Call (.Name x p) (e :: es) [] pos) (eCall f tr) :=
  pe_imp (pe_callTy hc hg hm hv ha hn hdb he hpl) fun _ _ _ h => lift_call hf h
end
end Pv
/-! Pv5: statements, loops. -/
namespace Pv
open PySem PySem.Spec PyProof.Rows L2
inductive RS where
  | nx (Γ : Gam) (S : Sto) | rt (v : PV) (S : Sto) | bk (Γ : Gam) (S : Sto) | ct (Γ : Gam) (S : Sto) | ex (c : Str) (fs : List (Str × PV)) (Γ : Gam) (S : Sto) | bad
abbrev SF := Gam → Sto → RS
abbrev GF := PV → Gam → Sto → R Gam
def R.st {α : Type} (r : R α) (Γ : Gam) (k : α → Sto → RS) : RS := match r with
  | .ok a S => k a S
  | .ex c fs S => .ex c fs Γ S
  | .bad => .bad
section
variable {X : Cx} {H H' H'' : Hp} {g g' g'' : G} {S S' S'' : Sto} {W : WX} {a b c e o : Expr} {es rest : List Expr} {ta tb tc to : EF} {pos : Pos} {D : Ends} {sts : List Stmt} {s1 s2 : Stmt} {t u : SF} {Γ : Gam} {σ : L2.St}
def OKs (X : Kx) (W : WX) (D : Ends) (H : Hp) (g : G) (S : Sto) (r : RS) : Prop := match r with
  | .nx Γ' S' => ∀ g' H' σ', Ext X H g S H' g' S' → RG X H' g' S'.length Γ' σ' → D.nx σ' H'
  | .bk Γ' S' => ∀ g' H' σ', Ext X H g S H' g' S' → RG X H' g' S'.length Γ' σ' → D.bk σ' H'
  | .ct Γ' S' => ∀ g' H' σ', Ext X H g S H' g' S' → RG X H' g' S'.length Γ' σ' → D.ct σ' H'
  | .rt v S' => ∀ g' H' x, Ext X H g S H' g' S' → RV X H' g' S'.length v x → D.rt x H'
  | .ex c fs Γ' S' => ∀ g' H' σ' cls d, Ext X H g S H' g' S' → RG X H' g' S'.length Γ' σ' → RX X H' g' S'.length c fs cls d → W cls d σ' H'
  | .bad => False
theorem OKs.cont {r : RS} (e : Ext X H g S H' g' S') (h : OKs X W D H g S r) : OKs X W D H' g' S' r := by
  cases r with
  | nx Γ1 S1 => exact fun g1 H1 σ1 e1 => h g1 H1 σ1 (e.trans e1)
  | bk Γ1 S1 => exact fun g1 H1 σ1 e1 => h g1 H1 σ1 (e.trans e1)
  | ct Γ1 S1 => exact fun g1 H1 σ1 e1 => h g1 H1 σ1 (e.trans e1)
  | rt v S1 => exact fun g1 H1 x e1 => h g1 H1 x (e.trans e1)
  | ex c fs Γ1 S1 => exact fun g1 H1 σ1 cls d e1 => h g1 H1 σ1 cls d (e.trans e1)
  | bad => exact h
def liftS (X : Cx) (W : WX) (t : SF) : TS := fun D σ H => ∃ g Γ S, Rel X H g S ∧ RG X H g S.length Γ σ ∧ OKs X W D H g S (t Γ S)
def liftG (X : Cx) (W : WX) (t : GF) : TG := fun v σ H Q => ∃ g Γ S p, Rel X H g S ∧ RG X H g S.length Γ σ ∧ RV X H g S.length p v ∧ OKw X W σ H g S (t p Γ S) fun Γ' S' g' H' => ∀ σ', RG X H' g' S'.length Γ' σ' → Q σ' H'
/-- a statement does t; a block; a target takes by t -/
def St (X : Cx) (W : WX) (s : Stmt) (t : SF) : Prop := PS X s (liftS X W t)
def Ss (X : Cx) (W : WX) (s : List Stmt) (t : SF) : Prop := PSs X s (liftS X W t)
def Tg (X : Cx) (W : WX) (e : Expr) (t : GF) : Prop := PG X e (liftG X W t)
theorem ps_imp {s : Stmt} {t t' : TS} (h : PS X s t) (k : ∀ D σ H, t' D σ H → t D σ H) : PS X s t' := ⟨fun pins s σ H D I q => h.run pins s σ H D I (k D σ H q)⟩
theorem pss_imp {s : List Stmt} {t t' : TS} (h : PSs X s t) (k : ∀ D σ H, t' D σ H → t D σ H) : PSs X s t' := ⟨fun pins s σ H D I q => h.run pins s σ H D I (k D σ H q)⟩
theorem pg_imp {e : Expr} {t t' : TG} (h : PG X e t) (k : ∀ v σ H Q, t' v σ H Q → t v σ H Q) : PG X e t' := ⟨fun pins s σ H v u Q I r q => h.run pins s σ H v u Q I r (k v σ H Q q)⟩
theorem OKs.st {α : Type} {r : R α} {k : α → Sto → RS} (rel : Rel X H g S) (rg : RG X H g S.length Γ σ) (h : OKs X W D H g S (r.st Γ k)) : OKw X W σ H g S r fun v S1 g1 H1 => OKs X W D H1 g1 S1 (k v S1) := by
  cases r with
  | ok v S1 => exact fun g1 H1 e1 => OKs.cont e1 h
  | ex c fs S1 => exact fun g1 H1 cls d e1 rx => h g1 H1 σ cls d e1 (rg.up rel e1) rx
  | bad => exact h
def sSeq (t u : SF) : SF := fun Γ S => match t Γ S with
  | .nx Γ1 S1 => u Γ1 S1
  | r => r
def sNext : SF := fun Γ S => .nx Γ S
theorem Ss.nil : Ss X W [] sNext := pss_imp pss_nil fun D σ H ⟨g, Γ, S, rel, rg, ok⟩ => ok g H σ (Ext.refl rel) rg
theorem Ss.one (h : St X W s1 t) : Ss X W [s1] t := pss_one h
theorem Ss.cons (h : St X W s1 t) (k : Ss X W sts u) : Ss X W (s1 :: sts) (sSeq t u) :=
  pss_imp (pss_cons h k) fun D σ H ⟨g, Γ, S, rel, rg, ok⟩ => ⟨g, Γ, S, rel, rg, by
    unfold sSeq at ok
    cases q : t Γ S with
    | nx Γ1 S1 =>
      rw [q] at ok
      exact fun g1 H1 σ1 e1 rg1 => ⟨g1, Γ1, S1, e1.rel, rg1, OKs.cont e1 ok⟩
    | bk Γ1 S1 => rw [q] at ok; exact ok
    | ct Γ1 S1 => rw [q] at ok; exact ok
    | rt v S1 => rw [q] at ok; exact ok
    | ex c fs Γ1 S1 => rw [q] at ok; exact ok
    | bad => rw [q] at ok; exact ok⟩
def sBreak : SF := fun Γ S => .bk Γ S
def sExpr (t : EF) : SF := fun Γ S => (t Γ S).st Γ fun _ S1 => .nx Γ S1
theorem St.expr (h : E X W e ta) (hs : swapsWith e none pos.line X.env = pure false := by rfl) : St X W (.Expr e pos) (sExpr ta) :=
  ps_imp (ps_expr h hs) fun D σ H ⟨g, Γ, S, rel, rg, ok⟩ => ⟨g, Γ, S, rel, rg, OKw.mono (OKs.st rel rg ok) fun v S1 g1 H1 _ e1 h1 x _ => h1 g1 H1 σ (Ext.refl e1.rel) (rg.up rel e1)⟩
def sRet (t : EF) : SF := fun Γ S => (t Γ S).st Γ fun v S1 => .rt v S1
theorem St.ret (h : E X W e ta) : St X W (.Return (some e) pos) (sRet ta) :=
  ps_imp (ps_ret h) fun D σ H ⟨g, Γ, S, rel, rg, ok⟩ => ⟨g, Γ, S, rel, rg, OKw.mono (OKs.st rel rg ok) fun v S1 g1 H1 _ e1 h1 x rx => h1 g1 H1 x (Ext.refl e1.rel) rx⟩
def sIf (s : BF) (t u : SF) : SF := fun Γ S => (s Γ S).st Γ fun k S1 => if k = true then t Γ S1 else u Γ S1
theorem St.ite {sa : BF} {as bs : List Stmt} (hc : B X W c sa) (ha : Ss X W as t) (hb : Ss X W bs u) : St X W (.If c as bs pos) (sIf sa t u) :=
  ps_imp (ps_if hc ha hb) fun D σ H ⟨g, Γ, S, rel, rg, ok⟩ => ⟨g, Γ, S, rel, rg, OKw.mono (OKs.st rel rg ok) fun k S1 g1 H1 _ e1 h1 => by
    cases k with
    | true => rw [if_pos rfl] at h1 ⊢; exact ⟨g1, Γ, S1, e1.rel, rg.up rel e1, h1⟩
    | false => rw [if_neg Bool.false_ne_true] at h1 ⊢; exact ⟨g1, Γ, S1, e1.rel, rg.up rel e1, h1⟩⟩
/-! ### targets -/
def gN (i : Nat) : GF := fun p Γ S => .ok (Γ.set i (some p)) S
theorem Tg.name {i : Nat} {x : Str} (h : PG X (.Name x pos) (gName i)) : Tg X W (.Name x pos) (gN i) :=
  pg_imp h fun v σ H Q ⟨g, Γ, S, p, rel, rg, rv, ok⟩ => OKw.ok rel ok _ (rg.set rv)
abbrev GsF := List PV → Gam → Sto → R Gam
def liftGs (X : Cx) (W : WX) (t : GsF) : TGs := fun vs σ H Q => ∃ g Γ S ps, Rel X H g S ∧ RG X H g S.length Γ σ ∧ RVs X H g S.length ps vs ∧ OKw X W σ H g S (t ps Γ S) fun Γ' S' g' H' => ∀ σ', RG X H' g' S'.length Γ' σ' → Q σ' H'
/-- plain names -/
def gNs : List Nat → GsF
  | [], ps, Γ, S => match ps with
    | [] => .ok Γ S
    | _ => .bad
  | i :: is, ps, Γ, S => match ps with
    | p :: r => gNs is r (Γ.set i (some p)) S
    | [] => .bad
theorem gNs_ok : ∀ (is : List Nat) (ps : List PV) (Γ : Gam) (S : Sto), (∃ Γ' , gNs is ps Γ S = .ok Γ' S) ∨ gNs is ps Γ S = .bad
  | [], [], Γ, S => Or.inl ⟨Γ, rfl⟩
  | [], _ :: _, _, _ => Or.inr rfl
  | _ :: _, [], _, _ => Or.inr rfl
  | i :: is, p :: r, Γ, S => gNs_ok is r (Γ.set i (some p)) S
theorem gns_nil : PGs X [] (liftGs X W (gNs [])) := ⟨fun pins s σ H vs us Q I r ⟨g, Γ, S, ps, rel, rg, rv, ok⟩ => pgs_nil.run pins s σ H vs us Q I r (by
  cases ps with
  | nil => simp only [RVs] at rv; exact ⟨rv, OKw.ok rel ok _ rg⟩
  | cons _ _ => exact ok.elim)⟩
theorem gns_cons {i : Nat} {is : List Nat} {x : Str} (h : PG X (.Name x pos) (gName i)) (k : PGs X es (liftGs X W (gNs is)))
    (hs : (assignEach (.Name x pos :: es) X.env).map (·.2) = assign (.Name x pos) X.env :: (assignEach es X.env).map (·.2) := by rfl) : PGs X (.Name x pos :: es) (liftGs X W (gNs (i :: is))) :=
  ⟨fun pins s σ H vs us Q I r ⟨g, Γ, S, ps, rel, rg, rv, ok⟩ => (pgs_cons h k hs).run pins s σ H vs us Q I r (by
    cases ps with
    | nil => exact ok.elim
    | cons p ps =>
      simp only [RVs] at rv
      obtain ⟨v, w, rfl, h1, h2⟩ := rv
      refine ⟨v, w, rfl, g, _, S, ps, rel, rg.set h1, h2, ?_⟩
      have ok : OKw X W σ H g S (gNs is ps (Γ.set i (some p)) S) _ := ok
      rcases gNs_ok is ps (Γ.set i (some p)) S with ⟨Γ', q⟩ | q
      · rw [q] at ok ⊢; exact ok
      · rw [q] at ok; exact ok.elim)⟩
/-- a, b, .. = a tuple -/
def gT (is : List Nat) : GF := fun p Γ S => match deref S p with
  | some (.tup, xs) => gNs is xs Γ S
  | _ => .bad
theorem gNs_len : ∀ {is : List Nat} {ps : List PV} {Γ : Gam} {S : Sto}, (∃ Γ' S', gNs is ps Γ S = .ok Γ' S') → ps.length = is.length
  | [], [], _, _, _ => rfl
  | [], _ :: _, _, _, ⟨_, _, h⟩ => by cases h
  | _ :: _, [], _, _, ⟨_, _, h⟩ => by cases h
  | i :: is, p :: r, Γ, S, ⟨Γ', S', h⟩ => by
    simp only [List.length_cons, gNs_len (is := is) (ps := r) (Γ := Γ.set i (some p)) (S := S) ⟨Γ', S', h⟩]
theorem Tg.tup {is : List Nat} {k n : Nat} (hc : X.calm = true) (h : PGs X es (liftGs X W (gNs is))) (hi : is.length = n := by rfl) (hn : (assignEach es X.env).length = n := by rfl) (hst : (assignEach es X.env).findIdx? (·.1) = none := by rfl) :
    Tg X W (.Tuple es k pos) (gT is) :=
  pg_imp (pg_tup hc h hn hst) fun v σ H Q ⟨g, Γ, S, p, rel, rg, rv, ok⟩ => by
    unfold gT at ok
    split at ok
    · rename_i xs e
      obtain ⟨a, vs, rfl, h2, h3⟩ := deref_ok rel rv e
      have hl : xs.length = is.length := by
        rcases gNs_ok is xs Γ S with ⟨Γ', q⟩ | q
        · exact gNs_len ⟨Γ', S, q⟩
        · rw [q] at ok; exact ok.elim
      exact ⟨a, vs, rfl, h3.tup, by rw [← h2.len, hl, hi], g, Γ, S, xs, rel, rg, h2, ok⟩
    · exact ok.elim
def sAsg (t : EF) (gt : GF) : SF := fun Γ S => (t Γ S).st Γ fun v S1 => (gt v Γ S1).st Γ fun Γ1 S2 => .nx Γ1 S2
theorem asg_imp {gt : GF} (h : liftS X W (sAsg ta gt) D σ H) : tAsg (lift X W ta) (liftG X W gt) D σ H := by
  obtain ⟨g, Γ, S, rel, rg, ok⟩ := h
  refine ⟨g, Γ, S, rel, rg, OKw.mono (OKs.st rel rg ok) fun v S1 g1 H1 _ e1 h1 x rx => ?_⟩
  refine ⟨g1, Γ, S1, v, e1.rel, rg.up rel e1, rx, OKw.mono (OKs.st e1.rel (rg.up rel e1) h1) fun Γ2 S2 g2 H2 _ e2 h2 σ2 rg2 => h2 g2 H2 σ2 (Ext.refl e2.rel) rg2⟩
theorem St.asg {tg : Expr} {gt : GF} (he : E X W e ta) (hg : Tg X W tg gt) (hs : swapsWithSole [tg] e pos.line X.env = pure false := by rfl) (hw : swappedStores [tg] e X.env = pure none := by rfl)
    (h1 : (assignEach [tg] X.env).map (·.2) = [assign tg X.env] := by rfl) : St X W (.Assign [tg] e pos) (sAsg ta gt) :=
  ps_imp (ps_asg he hg hs hw h1) fun D σ H h => asg_imp h
/-- name = e -/
def sSet (i : Nat) (t : EF) : SF := fun Γ S => (t Γ S).st Γ fun v S1 => .nx (Γ.set i (some v)) S1
theorem set_imp {i : Nat} (h : liftS X W (sSet i ta) D σ H) : tAsg (lift X W ta) (gName i) D σ H := by
  obtain ⟨g, Γ, S, rel, rg, ok⟩ := h
  exact ⟨g, Γ, S, rel, rg, OKw.mono (OKs.st rel rg ok) fun v S1 g1 H1 _ e1 h1 x rx => h1 g1 H1 _ (Ext.refl e1.rel) ((rg.up rel e1).set rx)⟩
theorem St.set {i : Nat} {x : Str} {pos' : Pos} (h : ∀ {te : TE}, PE X e te → PS X (.Assign [.Name x pos'] e pos) (tAsg te (gName i))) (he : E X W e ta) : St X W (.Assign [.Name x pos'] e pos) (sSet i ta) :=
  ps_imp (h he) fun D σ H q => set_imp q
/-- name op= e, intsF -/
def sAug (i : Nat) (f : OF) (t : EF) : SF := fun Γ S => match Γ[i]? with
  | some (some p) => (t Γ S).st Γ fun q S1 => match f p q S1 with
    | some (v, S2) => .nx (Γ.set i (some v)) S2
    | none => .bad
  | _ => .bad
/-! ### for, over what stands still -/
def forL (body : PV → SF) : List PV → SF
  | [], Γ, S => .nx Γ S
  | x :: xs, Γ, S => match body x Γ S with
    | .nx Γ1 S1 => forL body xs Γ1 S1
    | .ct Γ1 S1 => forL body xs Γ1 S1
    | .bk Γ1 S1 => .nx Γ1 S1
    | r => r
/-- what is walked, item by item: none: it is not a thing that may be walked; some none: the end -/
abbrev Stp := Sto → Nat → Option (Option PV)
def forI (st : Stp) (body : PV → SF) : Nat → Nat → SF
  | 0, _, _, _ => .bad
  | m + 1, i, Γ, S => match st S i with
    | none => .bad
    | some none => .nx Γ S
    | some (some x) => match body x Γ S with
      | .nx Γ1 S1 => forI st body m (i + 1) Γ1 S1
      | .ct Γ1 S1 => forI st body m (i + 1) Γ1 S1
      | .bk Γ1 S1 => .nx Γ1 S1
      | r => r
/-- a row that stands still -/
def stL (ps : List PV) : Stp := fun _ i => some ps[i]?
/-- a list that may change -/
def stR (n : Nat) : Stp := fun S i => match S[n]?.join with
  | some (.lst, xs) => some xs[i]?
  | _ => none
theorem forI_L {body : PV → SF} : ∀ (ps qs : List PV) (Γ : Gam) (S : Sto), forI (stL (qs ++ ps)) body (ps.length + 1) qs.length Γ S = forL body ps Γ S
  | [], qs, Γ, S => by
    simp only [List.append_nil, List.length_nil, forI, stL, forL]
    rw [List.getElem?_eq_none (Nat.le_refl _)]
  | p :: ps, qs, Γ, S => by
    have ih := fun Γ S => forI_L (body := body) ps (qs ++ [p]) Γ S
    simp only [List.append_assoc, List.singleton_append, List.length_append, List.length_singleton] at ih
    have e : (qs ++ p :: ps)[qs.length]? = some p := by
      rw [List.getElem?_append_right (Nat.le_refl _), Nat.sub_self] <;> rfl
    simp only [List.length_cons]
    rw [forI]
    simp only [stL] at ih ⊢
    rw [e]
    simp only [forL]
    cases body p Γ S <;> simp only [ih]
def sTurn (gt : GF) (t : SF) : PV → SF := fun p Γ S => (gt p Γ S).st Γ fun Γ1 S1 => t Γ1 S1
/-- one turn: the body's ends are the loop's -/
theorem turn_ok {gt : GF} {p : PV} {v : V} {k : SF} {N : L2.St → Hp → Prop} (rel : Rel X H g S) (rg : RG X H g S.length Γ σ) (rv : RV X H g S.length p v)
    (hN : ∀ g' H' σ' Γ' S', Ext X H g S H' g' S' → RG X H' g' S'.length Γ' σ' → OKs X W D H' g' S' (k Γ' S') → N σ' H')
    (ok : OKs X W D H g S (match sTurn gt t p Γ S with
      | .nx Γ1 S1 => k Γ1 S1
      | .ct Γ1 S1 => k Γ1 S1
      | .bk Γ1 S1 => .nx Γ1 S1
      | r => r)) : liftG X W gt v σ H fun σ2 H2 => liftS X W t { D with nx := N, ct := N, bk := D.nx } σ2 H2 := by
  refine ⟨g, Γ, S, p, rel, rg, rv, ?_⟩
  unfold sTurn at ok
  cases q : gt p Γ S with
  | bad => rw [q] at ok; exact ok.elim
  | ex c fs S1 =>
    rw [q] at ok
    exact fun g1 H1 cls d e1 rx => ok g1 H1 σ cls d e1 (rg.up rel e1) rx
  | ok Γ1 S1 =>
    rw [q] at ok
    intro g1 H1 e1 σ1 rg1
    refine ⟨g1, Γ1, S1, e1.rel, rg1, ?_⟩
    have ok : OKs X W D H g S (match t Γ1 S1 with
      | .nx Γ1 S1 => k Γ1 S1
      | .ct Γ1 S1 => k Γ1 S1
      | .bk Γ1 S1 => .nx Γ1 S1
      | r => r) := ok
    cases z : t Γ1 S1 with
    | nx Γ2 S2 =>
      rw [z] at ok
      exact fun g2 H2 σ2 e2 rg2 => hN g2 H2 σ2 Γ2 S2 (e1.trans e2) rg2 (OKs.cont (e1.trans e2) ok)
    | ct Γ2 S2 =>
      rw [z] at ok
      exact fun g2 H2 σ2 e2 rg2 => hN g2 H2 σ2 Γ2 S2 (e1.trans e2) rg2 (OKs.cont (e1.trans e2) ok)
    | bk Γ2 S2 =>
      rw [z] at ok
      exact fun g2 H2 σ2 e2 rg2 => ok g2 H2 σ2 (e1.trans e2) rg2
    | rt w S2 =>
      rw [z] at ok
      exact fun g2 H2 x e2 rx => ok g2 H2 x (e1.trans e2) rx
    | ex c fs Γ2 S2 =>
      rw [z] at ok
      exact fun g2 H2 σ2 cls d e2 rg2 rx => ok g2 H2 σ2 cls d (e1.trans e2) rg2 rx
    | bad => rw [z] at ok; exact ok.elim
/-- the walker J does what st says, from the state (H, g, S) on -/
def JOK (X : Kx) (J : It) (st : Stp) (H : Hp) (g : G) (S : Sto) : Prop := ∀ g' H' S' i, Ext X H g S H' g' S' →
  (∀ p, st S' i = some (some p) → J.go i H' ∧ ∀ x H2, J.yld i H' x H2 → ∃ g2, Ext X H' g' S' H2 g2 S' ∧ RV X H2 g2 S'.length p x) ∧ (st S' i = some none → J.stop i H')
theorem forI_ok {gt : GF} {J : It} {st : Stp} {n : Nat} (rel : Rel X H g S) (rg : RG X H g S.length Γ σ) (hJ : JOK X J st H g S) (ok : OKs X W D H g S (forI st (sTurn gt t) n 0 Γ S)) :
    ∃ Wv : Nat → Nat → L2.St → Hp → Prop, (∃ m, Wv 0 m σ H) ∧ ∀ i m σ H, Wv i m σ H →
      (J.stop i H ∧ D.nx σ H) ∨ (J.go i H ∧ ∃ N : L2.St → Hp → Prop, (∀ σ' H', N σ' H' → ∃ m', m' < m ∧ Wv (i + 1) m' σ' H') ∧ ∀ x H', J.yld i H x H' → liftG X W gt x σ H' fun σ2 H2 => liftS X W t { D with nx := N, ct := N, bk := D.nx } σ2 H2) := by
  refine ⟨fun i m σ1 H1 => ∃ g1 Γ1 S1, Ext X H g S H1 g1 S1 ∧ RG X H1 g1 S1.length Γ1 σ1 ∧ OKs X W D H1 g1 S1 (forI st (sTurn gt t) m i Γ1 S1), ⟨n, g, Γ, S, Ext.refl rel, rg, ok⟩, ?_⟩
  rintro i m σ1 H1 ⟨g1, Γ1, S1, e1, rg1, ok1⟩
  obtain ⟨j1, j2⟩ := hJ g1 H1 S1 i e1
  cases m with
  | zero => exact ok1.elim
  | succ m =>
    rw [forI] at ok1
    cases q : st S1 i with
    | none => rw [q] at ok1; exact ok1.elim
    | some z =>
      rw [q] at ok1
      cases z with
      | none => exact Or.inl ⟨j2 q, ok1 g1 H1 σ1 (Ext.refl e1.rel) rg1⟩
      | some p =>
        obtain ⟨j3, j4⟩ := j1 p q
        refine Or.inr ⟨j3, fun σ2 H2 => ∃ g2 Γ2 S2, Ext X H g S H2 g2 S2 ∧ RG X H2 g2 S2.length Γ2 σ2 ∧ OKs X W D H2 g2 S2 (forI st (sTurn gt t) m (i + 1) Γ2 S2), fun σ2 H2 h2 => ⟨m, Nat.lt_succ_self m, h2⟩, fun x H2 y => ?_⟩
        obtain ⟨g2, e2, rv⟩ := j4 x H2 y
        exact turn_ok (k := fun Γ S => forI st (sTurn gt t) m (i + 1) Γ S) e2.rel (rg1.up e1.rel e2) rv (fun g' H' σ' Γ' S' e' rg' ok' => ⟨g', Γ', S', (e1.trans e2).trans e', rg', ok'⟩) (OKs.cont e2 ok1)
/-! ### while -/
def whlN (c : BF) (t : SF) : Nat → SF
  | 0, _, _ => .bad
  | n + 1, Γ, S => (c Γ S).st Γ fun k S1 => if k = true then (match t Γ S1 with
      | .nx Γ2 S2 => whlN c t n Γ2 S2
      | .ct Γ2 S2 => whlN c t n Γ2 S2
      | .bk Γ2 S2 => .nx Γ2 S2
      | r => r) else .nx Γ S1
def fuel : Nat := 1000000000000
def sWhl (c : BF) (t : SF) : SF := whlN c t fuel
theorem St.whl {sa : BF} {body : List Stmt} (hp : PassesOwn (model X.prog X.w) X.A X.env X.xe) (hc : B X W c sa) (hb : Ss X W body t) : St X W (.While c body [] pos) (sWhl sa t) :=
  ps_imp (ps_while hp hc hb) fun D σ H ⟨g, Γ, S, rel, rg, ok⟩ => by
    refine ⟨fun m σ1 H1 => ∃ g1 Γ1 S1, Rel X H1 g1 S1 ∧ RG X H1 g1 S1.length Γ1 σ1 ∧ OKs X W D H1 g1 S1 (whlN sa t m Γ1 S1), ⟨fuel, g, Γ, S, rel, rg, ok⟩, ?_⟩
    rintro m σ1 H1 ⟨g1, Γ1, S1, rel1, rg1, ok1⟩
    cases m with
    | zero => exact ok1.elim
    | succ m =>
      refine ⟨g1, Γ1, S1, rel1, rg1, OKw.mono (OKs.st rel1 rg1 ok1) fun k S2 g2 H2 _ e2 h2 => ?_⟩
      cases k with
      | false => rw [if_neg Bool.false_ne_true] at h2 ⊢; exact h2 g2 H2 σ1 (Ext.refl e2.rel) (rg1.up rel1 e2)
      | true =>
        rw [if_pos rfl] at h2 ⊢
        refine ⟨fun σ3 H3 => ∃ g3 Γ3 S3, Rel X H3 g3 S3 ∧ RG X H3 g3 S3.length Γ3 σ3 ∧ OKs X W D H3 g3 S3 (whlN sa t m Γ3 S3), fun σ3 H3 h3 => ⟨m, Nat.lt_succ_self m, h3⟩, g2, Γ1, S2, e2.rel, rg1.up rel1 e2, ?_⟩
        cases z : t Γ1 S2 with
        | nx Γ3 S3 => rw [z] at h2; exact fun g3 H3 σ3 e3 rg3 => ⟨g3, Γ3, S3, e3.rel, rg3, OKs.cont e3 h2⟩
        | ct Γ3 S3 => rw [z] at h2; exact fun g3 H3 σ3 e3 rg3 => ⟨g3, Γ3, S3, e3.rel, rg3, OKs.cont e3 h2⟩
        | bk Γ3 S3 => rw [z] at h2; exact h2
        | rt v S3 => rw [z] at h2; exact h2
        | ex c fs Γ3 S3 => rw [z] at h2; exact h2
        | bad => rw [z] at h2; exact h2.elim
/-! ### what may be walked -/
def strs1 (z : Str) : List PV := z.cps.toList.map fun c => .str ⟨#[c]⟩
def intsF (lo : Int) (n : Nat) : List PV := (List.range n).map fun i => .int (lo + (i : Nat))
abbrev IF := Gam → Sto → R (Stp × Nat)
def SrcOK (X : Cx) (W : WX) (wi : TI) (it : IF) : Prop := ∀ (σ : L2.St) (H : Hp) (g : G) (Γ : Gam) (S : Sto) (Rr : It → Hp → Prop), Rel X H g S → RG X H g S.length Γ σ →
  OKw X W σ H g S (it Γ S) (fun q S1 g1 H1 => ∀ J, JOK X J q.1 H1 g1 S1 → Rr J H1) → wi σ H Rr
/-- iter walks as it says -/
def I (X : Cx) (W : WX) (tg iter : Expr) (it : IF) : Prop := ∃ wi, PI X tg iter wi ∧ SrcOK X W wi it
def sFor (it : IF) (gt : GF) (t : SF) : SF := fun Γ S => (it Γ S).st Γ fun q S1 => forI q.1 (sTurn gt t) q.2 0 Γ S1
variable {tg : Expr} {gt : GF} {body : List Stmt} {tn : AF} {it : IF} {iter : Expr}
theorem St.for (hp : PassesOwn (model X.prog X.w) X.A X.env X.xe) (hc : X.calm = true) (hi : I X W tg iter it) (ht : Tg X W tg gt) (hb : Ss X W body t) (hf : ∀ x, foldedSetIterable iter X.env x = pure x := by intro _; rfl) :
    St X W (.For tg iter body [] pos) (sFor it gt t) := by
  obtain ⟨wi, pi, src⟩ := hi
  refine ps_imp (ps_for hp hc pi ht hb hf) fun D σ H ⟨g, Γ, S, rel, rg, ok⟩ => ?_
  exact src σ H g Γ S _ rel rg (OKw.mono (OKs.st rel rg ok) fun q S1 g1 H1 _ e1 h1 J hJ => forI_ok e1.rel (rg.up rel e1) hJ h1)
theorem jok_L {J : It} {ps : List PV} {vs : List V} (rel : Rel X H g S) (rv : RVs X H g S.length ps vs)
    (hJ : ∀ H' i, (∀ x, vs[i]? = some x → J.go i H' ∧ ∀ y H2, J.yld i H' y H2 → y = x ∧ H2 = H') ∧ (vs.length ≤ i → J.stop i H')) : JOK X J (stL ps) H g S := by
  intro g' H' S' i e
  refine ⟨fun p q => ?_, fun q => ?_⟩
  · obtain ⟨x, q1, q2⟩ := rv.get (i := i) (p := p) (Option.some.inj q)
    obtain ⟨j1, j2⟩ := (hJ H' i).1 x q1
    refine ⟨j1, fun y H2 z => ?_⟩
    obtain ⟨rfl, rfl⟩ := j2 y H2 z
    exact ⟨g', Ext.refl e.rel, RV.up rel e _ _ q2⟩
  · have q : ps[i]? = none := Option.some.inj q
    exact (hJ H' i).2 (by rw [← rv.len]; exact List.getElem?_eq_none_iff.mp q)
theorem RVs.ofints {Y : Kx} {L : Nat} {lo : Int} {n : Nat} : RVs Y H g L (intsF lo n) ((List.range n).map fun i => V.int (lo + (i : Nat))) := by
  unfold intsF
  generalize List.range n = l
  induction l with
  | nil => exact RVs.nil
  | cons i l ih => exact RVs.cons RV.int ih
theorem jok_r {lo : Int} {n : Nat} (rel : Rel X H g S) : JOK X (Itr lo n) (stL (intsF lo n)) H g S :=
  jok_L rel RVs.ofints fun H' i => ⟨fun x h => by
    rw [List.getElem?_map] at h
    obtain ⟨j, h1, h2⟩ := Option.map_eq_some_iff.mp h
    have hi := (List.getElem?_eq_some_iff.mp h1).1
    rw [List.length_range] at hi
    rw [List.getElem?_range hi] at h1
    cases h1
    exact ⟨hi, fun y H2 z => ⟨z.2.trans h2, z.1⟩⟩, fun h => by
    rw [List.length_map, List.length_range] at h
    exact h⟩
def iR1 (tn : AF) : IF := fun Γ S => (tn Γ S).bind fun ps S1 => match ps with
  | [.int n] => if -(2 ^ 62) ≤ n ∧ n < 2 ^ 62 then .ok (stL (intsF 0 n.toNat), n.toNat + 1) S1 else .bad
  | _ => .bad
def iR2 (tn : AF) : IF := fun Γ S => (tn Γ S).bind fun ps S1 => match ps with
  | [.int i, .int j] => if -(2 ^ 62) ≤ i ∧ i < 2 ^ 62 ∧ -(2 ^ 62) ≤ j ∧ j < 2 ^ 62 then .ok (stL (intsF i (j - i).toNat), (j - i).toNat + 1) S1 else .bad
  | _ => .bad
theorem I.r1 {p : Pos} (hg : Gl X "range") (hm : X.mg "range" = none) (ha : A X W [a] tn) (hs : starEach [a] X.env = [(false, eval a X.env)] := by rfl) : I X W tg (.Call (.Name "range" p) [a] [] pos) (iR1 tn) :=
  ⟨_, pi_range1 hg hm ha hs, fun σ H g Γ S Rr rel rg ok => ⟨g, Γ, S, rel, rg, OKw.mono (OKw.bind ok) fun ps S1 g1 H1 _ e1 h1 xs rxs => by
    split at h1
    · rename_i n _
      simp only [RVs, RV] at rxs
      obtain ⟨v, r, rfl, rfl, rfl⟩ := rxs
      split at h1
      · rename_i hn
        exact ⟨n, rfl, hn.1, hn.2, OKw.ok e1.rel h1 _ (jok_r e1.rel)⟩
      · exact h1.elim
    · exact h1.elim⟩⟩
theorem I.r2 {p : Pos} (hg : Gl X "range") (hm : X.mg "range" = none) (ha : A X W [a, b] tn) (hs : starEach [a, b] X.env = [(false, eval a X.env), (false, eval b X.env)] := by rfl) (hs2 : starEach [b] X.env = [(false, eval b X.env)] := by rfl) :
    I X W tg (.Call (.Name "range" p) [a, b] [] pos) (iR2 tn) :=
  ⟨_, pi_range2 hg hm ha hs hs2, fun σ H g Γ S Rr rel rg ok => ⟨g, Γ, S, rel, rg, OKw.mono (OKw.bind ok) fun ps S1 g1 H1 _ e1 h1 xs rxs => by
    split at h1
    · rename_i i j _
      simp only [RVs, RV] at rxs
      obtain ⟨v, r, rfl, rfl, v2, r2, rfl, rfl, rfl⟩ := rxs
      split at h1
      · rename_i hn
        exact ⟨i, j, rfl, hn, OKw.ok e1.rel h1 _ (jok_r e1.rel)⟩
      · exact h1.elim
    · exact h1.elim⟩⟩
end
end Pv
/-! Pv6: defs of data: promises by functions, calls, bodies. -/
namespace Pv
open PySem PySem.Spec PyProof.Rows L2
/-! ### data without changing or lent parts -/
mutual
def clean : PV → Bool
  | .con .lent _ _ => false
  | .con _ _ xs => cleans xs
  | .ref _ => false
  | _ => true
def cleans : List PV → Bool
  | [] => true
  | x :: xs => clean x && cleans xs
end
inductive RP where
  | ok (v : PV) | ex (c : Str) (fs : List (Str × PV)) | bad
/-- a local value handed out: what changed until now stands for good -/
def frzV : Nat → Sto → PV → Option PV
  | 0, _, p => if clean p = true then some p else none
  | n + 1, S, p => if clean p = true then some p else match p with
    | .con .own k xs => (xs.mapM (frzV n S)).map (.con .own k)
    | .con .out k xs => (xs.mapM (frzV n S)).map (.con .out k)
    | .ref i => match S[i]?.join with
      | some (k, xs) => (xs.mapM (frzV n S)).map (.con .own k)
      | none => none
    | _ => none
/-- a value lent to a callee -/
def lendV (S : Sto) (p : PV) : Option PV := if clean p = true then some p else match p with
  | .con .lent k xs => if cleans xs = true then some (.con .lent k xs) else none
  | .ref i => match S[i]?.join with
    | some (k, xs) => if cleans xs = true then some (.con .lent k xs) else none
    | none => none
  | _ => none
def resP (S : Sto) (p : PV) : RP := match frzV 9 S p with
  | some q => .ok q
  | none => .bad
/-- a def of np parameters and n slots, as a function of data -/
def runP (np n : Nat) (body : SF) (args : List PV) : RP := if args.length = np then (match body (args.map some ++ List.replicate (n - args.length) none) [] with
  | .nx _ _ => .ok .non
  | .rt v S => resP S v
  | .ex c fs _ S => if cleans (fs.map (·.2)) = true then .ex c fs else .bad
  | _ => .bad) else .bad
section
variable {Y : Kx} {H H' H'' : Hp} {g g' g'' : G} {S S' S'' : Sto} {L L' : Nat}
structure CUp (H : Hp) (g : G) (H' : Hp) (g' : G) : Prop where
  keep : ∀ a o, H a = some o → (Mut (some o) → g.F a) → H' a = some o
  fr : ∀ a, g.F a → g'.F a
mutual
theorem RV.clean (u : CUp H g H' g') : ∀ (p : PV) (v : V), clean p = true → RV Y H g L p v → RV Y H' g' L' p v
  | .non, _, _, h => h
  | .bl _, _, _, h => h
  | .int _, _, _, h => h
  | .str _, _, _, h => h
  | .fn _, _, _, h => h
  | .ty _, _, _, h => h
  | .ref n, v, c, _ => by simp [Pv.clean] at c
  | .con .lent k xs, v, c, _ => by simp [Pv.clean] at c
  | .con .own k xs, v, c, h => by
    simp only [Pv.clean] at c
    simp only [RV] at h ⊢
    obtain ⟨a, vs, h1, ⟨o, h2, h3, h4⟩, h5⟩ := h
    exact ⟨a, vs, h1, ⟨o, h2, u.keep a o h3 h4, fun z => u.fr a (h4 z)⟩, RVs.clean u xs vs c h5⟩
  | .con .out k xs, v, c, h => by
    simp only [Pv.clean] at c
    simp only [RV] at h ⊢
    obtain ⟨a, vs, h1, h2, h5⟩ := h
    refine ⟨a, vs, h1, ?_, RVs.clean u xs vs c h5⟩
    rcases h2 with ⟨ob, o, q1, q2⟩ | h2
    · exact Or.inl ⟨ob, o, q1, u.keep a _ q2 fun z => False.elim z⟩
    · exact Or.inr h2
theorem RVs.clean (u : CUp H g H' g') : ∀ (p : List PV) (v : List V), cleans p = true → RVs Y H g L p v → RVs Y H' g' L' p v
  | [], _, _, h => h
  | x :: xs, vs, c, h => by
    simp only [Pv.cleans, Bool.and_eq_true] at c
    simp only [RVs] at h ⊢
    obtain ⟨v, r, h1, h2, h3⟩ := h
    exact ⟨v, r, h1, RV.clean u x v c.1 h2, RVs.clean u xs r c.2 h3⟩
end
theorem mapM_rv {f : PV → Option PV} (hf : ∀ p x q, RV Y H g L p x → f p = some q → RV Y H' g' L' q x) : ∀ {xs ys : List PV} {vs : List V}, RVs Y H g L xs vs → xs.mapM f = some ys → RVs Y H' g' L' ys vs
  | [], ys, vs, h, e => by
    simp only [RVs] at h
    subst h
    simp at e
    subst e
    exact RVs.nil
  | x :: xs, ys, vs, h, e => by
    simp only [RVs] at h
    obtain ⟨v, r, rfl, h2, h3⟩ := h
    simp only [List.mapM_cons, Option.bind_eq_bind, Option.bind_eq_some_iff, Option.pure_def, Option.some.injEq] at e
    obtain ⟨d, e1, es, e2, rfl⟩ := e
    exact RVs.cons (hf x v d h2 e1) (mapM_rv hf h3 e2)
/-- what stands for good behind a def: what did, and its own objects -/
def endF (g : G) (S : Sto) : Addr → Prop := fun a => g.F a ∨ ∃ n, Al S n ∧ g.r n = a
def Gp (F : Addr → Prop) : G := ⟨F, fun _ => False, fun _ => 0⟩
theorem frzV_ok (rel : Rel Y H g S) : ∀ (n : Nat) (p : PV) (x : V) (q : PV), RV Y H g S.length p x → frzV n S p = some q → RV Y H (Gp (endF g S)) 0 q x
  | 0, p, x, q, h, e => by
    unfold frzV at e
    split at e
    · rename_i c
      cases e
      exact RV.clean ⟨fun _ _ h _ => h, fun _ h => Or.inl h⟩ p x c h
    · cases e
  | n + 1, p, x, q, h, e => by
    unfold frzV at e
    split at e
    · rename_i c
      cases e
      exact RV.clean ⟨fun _ _ h _ => h, fun _ h => Or.inl h⟩ p x c h
    · split at e
      · simp only [Option.map_eq_some_iff] at e
        obtain ⟨ys, e, rfl⟩ := e
        simp only [RV] at h ⊢
        obtain ⟨a, vs, h1, ⟨o, h2, h3, h4⟩, h5⟩ := h
        exact ⟨a, vs, h1, ⟨o, h2, h3, fun z => Or.inl (h4 z)⟩, mapM_rv (frzV_ok rel n) h5 e⟩
      · simp only [Option.map_eq_some_iff] at e
        obtain ⟨ys, e, rfl⟩ := e
        simp only [RV] at h ⊢
        obtain ⟨a, vs, h1, h2, h5⟩ := h
        exact ⟨a, vs, h1, h2, mapM_rv (frzV_ok rel n) h5 e⟩
      · split at e
        · rename_i i _ _ k xs ej
          simp only [Option.map_eq_some_iff] at e
          obtain ⟨ys, e, rfl⟩ := e
          have hn := join_some ej
          obtain ⟨o, vs, q1, q2, q3, q4⟩ := rel.ob i k xs hn
          simp only [RV] at h ⊢
          exact ⟨_, vs, h.2, ⟨o, q2, q1, fun _ => Or.inr ⟨i, ⟨_, hn⟩, rfl⟩⟩, mapM_rv (frzV_ok rel n) q4 e⟩
        · cases e
      · cases e
def lendG (g : G) (S : Sto) : G := ⟨g.F, fun a => g.T a ∨ ∃ n, Al S n ∧ g.r n = a, fun _ => 0⟩
theorem lendV_ok (rel : Rel Y H g S) {p : PV} {x : V} {q : PV} (h : RV Y H g S.length p x) (e : lendV S p = some q) : RV Y H (lendG g S) 0 q x := by
  have cu : CUp H g H (lendG g S) := ⟨fun _ _ h _ => h, fun _ h => h⟩
  unfold lendV at e
  split at e
  · rename_i c
    cases e
    exact RV.clean cu p x c h
  · split at e
    · split at e
      · rename_i c
        cases e
        simp only [RV] at h ⊢
        obtain ⟨a, vs, h1, ⟨o, h2, h3, h4⟩, h5⟩ := h
        exact ⟨a, vs, h1, ⟨o, h2, h3, fun z => Or.inl (h4 z)⟩, RVs.clean cu _ _ c h5⟩
      · cases e
    · split at e
      · rename_i i _ _ k xs ej
        split at e
        · rename_i c
          cases e
          have hn := join_some ej
          obtain ⟨o, vs, q1, q2, q3, q4⟩ := rel.ob i k xs hn
          simp only [RV] at h ⊢
          exact ⟨_, vs, h.2, ⟨o, q2, q1, fun _ => Or.inr ⟨i, ⟨_, hn⟩, rfl⟩⟩, RVs.clean cu _ _ c q4⟩
        · cases e
      · cases e
    · cases e
/-! ### a promise by a function of data -/
structure Gro (H : Hp) (g : G) (H' : Hp) (F' : Addr → Prop) : Prop where
  fr : ∀ a, g.F a → F' a
  keep : ∀ a o, H a = some o → H' a = some o
  tr : ∀ a, F' a → ∃ o, H' a = some o
  new : ∀ a, F' a → g.F a ∨ H a = none
def OKp (Y : Kx) (H : Hp) (g : G) (r : RP) (Q : VK) (E : XK) : Prop := match r with
  | .ok v => ∀ H' F' x, Gro H g H' F' → RV Y H' (Gp F') 0 v x → Q x H'
  | .ex c fs => ∀ H' F' cls d, Gro H g H' F' → RX Y H' (Gp F') 0 c fs cls d → E cls d H'
  | .bad => False
def spP (Y : Kx) (f : List PV → RP) : Sp := fun vs H Q E => ∃ (g : G) (ps : List PV), RVs Y H g 0 ps vs ∧ (∀ a, g.F a ∨ g.T a → ∃ o, H a = some o) ∧ OKp Y H g (f ps) Q E
/-- a def that may be called by its name -/
structure Cal (P : Program) (w : World) (K : PySem.W.Frag) (mg : Str → Option Value) (base : Heap) (k : Nat) (x : Str) (sp : Sp) : Prop where
  ex : ∃ (f : Addr) (fd : FuncData) (ps : List Str), FnOk P w K mg base (L2.CX P w) k f fd ps sp ∧ mg x = some (.ref f) ∧ PySem.W.keepIn K (.ref f) = true ∧ Binds K fd ps []
end
def eCallP (f : List PV → RP) (t : AF) : EF := fun Γ S => (t Γ S).bind fun ps S1 => match ps.mapM (lendV S1) with
  | some qs => match f qs with
    | .ok v => .ok v S1
    | .ex c fs => .ex c fs S1
    | .bad => .bad
  | none => .bad
section
variable {X : Cx} {H H' H'' : Hp} {g g' g'' : G} {S S' S'' : Sto} {W : WX} {a b c e o : Expr} {es rest : List Expr} {ta tb tc to : EF} {tr : AF} {pos p : Pos} {Γ : Gam} {σ : L2.St} {x : Str} {k j : Nat} {f : List PV → RP}
theorem Gro.ext {F' : Addr → Prop} (rel : Rel X H g S) (u : Gro H (lendG g S) H' F') : Ext X H g S H' ⟨F', g.T, g.r⟩ S := by
  have up : Up H g S.length H' ⟨F', g.T, g.r⟩ S.length := ⟨fun a o h _ => u.keep a o h, fun a h => u.fr a h, fun _ h => h, fun _ _ => rfl, Nat.le_refl _⟩
  refine ⟨⟨fun n k xs e => ?_, rel.inj, fun n hn z => ?_, rel.fT, fun a z => ?_⟩, fun a o h _ => u.keep a o h, fun n hn => Or.inl ⟨hn, rfl⟩, fun _ _ => rfl, Nat.le_refl _, fun a h => u.fr a h, rfl, fun a o h => ⟨o, u.keep a o h⟩, fun a h => (u.new a h).elim Or.inl fun z => Or.inr (Or.inl z)⟩
  · obtain ⟨o, vs, h1, h2, h3, h4⟩ := rel.ob n k xs e
    exact ⟨o, vs, u.keep _ _ h1, h2, h3, RVs.mono up _ _ h4⟩
  · rcases u.new _ z with z | z
    · exact rel.fF n hn z
    · obtain ⟨o, q⟩ := rel.tracked hn
      have z : H (g.r n) = none := z
      rw [q] at z; cases z
  · rcases z with z | z
    · exact u.tr a z
    · obtain ⟨o, q⟩ := rel.tr a (Or.inr z)
      exact ⟨o, u.keep a o q⟩
theorem RX.mono {Y : Kx} {L L' : Nat} {c : Str} {fs : List (Str × PV)} {cls : Value} {d : Option Addr} (u : Up H g L H' g' L') (h : RX Y H g L c fs cls d) : RX Y H' g' L' c fs cls d := by
  obtain ⟨h1, h2⟩ := h
  refine ⟨h1, ?_⟩
  rcases h2 with h2 | ⟨dx, vs, q1, q2, q3⟩
  · exact Or.inl h2
  · exact Or.inr ⟨dx, vs, q1, u.keep _ _ q2 fun z => False.elim z, RVs.mono u _ _ q3⟩
theorem callP_imp {σ : L2.St} {H : Hp} {Q : VK} (h : lift X W (eCallP f tr) σ H Q) : tCallS (spP X f) (WE W) (liftA X W tr) σ H Q := by
  obtain ⟨g, Γ, S, rel, rg, ok⟩ := h
  refine ⟨g, Γ, S, rel, rg, OKw.mono (OKw.bind ok) fun ps S1 g1 H1 _ e1 h1 xs rxs => ?_⟩
  split at h1
  · rename_i qs eq
    refine ⟨lendG g1 S1, qs, mapM_rv (fun p x q h e => lendV_ok e1.rel h e) rxs eq, fun a z => ?_, ?_⟩
    · rcases z with z | z | ⟨n, hn, rfl⟩
      · exact e1.rel.tr a (Or.inl z)
      · exact e1.rel.tr a (Or.inr z)
      · exact e1.rel.tracked hn
    · have cu : ∀ {H' : Hp} {F' : Addr → Prop}, Up H' (Gp F') 0 H' ⟨F', g1.T, g1.r⟩ S1.length := fun {H' F'} => ⟨fun _ _ h _ => h, fun _ h => h, fun _ h => False.elim h, fun n h => absurd h (Nat.not_lt_zero n), Nat.zero_le _⟩
      split at h1
      · rename_i v ev
        rw [ev]
        exact fun H' F' x u rv => h1 _ _ (u.ext e1.rel) x (RV.mono cu _ _ rv)
      · rename_i c fs ev
        rw [ev]
        exact fun H' F' cls d u rx => h1 _ _ cls d (u.ext e1.rel) (rx.mono cu)
      · exact h1.elim
  · exact h1.elim
theorem E.call (c : Cal X.prog X.w X.K X.mg X.base k x (spP X f)) (hr : Room j X.A) (tk : Takes X W) (hg : Gl X x) (ha : A X W (e :: es) tr) (hk : k ≤ j := by decide)
    (hdb : (x == ("__debug__" : Str)) = false := by decide) (he : starEach (e :: es) X.env = (false, eval e X.env) :: starEach es X.env := by rfl) (hpl : (backTo pos (starEach es X.env)).any (·.1) = false := by rfl) :
    E X W (.Call (.Name x p) (e :: es) [] pos) (eCallP f tr) := by
  obtain ⟨fa, fd, ps, F, hm, kp, b⟩ := c.ex
  exact pe_imp (pe_callS F (hr.mono hk) hg hm kp b (passAt tk) ha hdb he hpl) fun _ _ _ h => callP_imp h
end
/-! ### a def's body -/
/-- what is known within a def's body -/
structure Body (X : Cx) (W : WX) (N : List Str) (sc : Scope) (k : Nat) : Prop where
  hN : X.N = N
  sc : X.env.scope = sc
  calm : X.calm = true
  fn : ∀ x, X.fn x = true
  room : Room k X.A
  tk : Takes X W
  po : PassesOwn (model X.prog X.w) X.A X.env X.xe
  hs : X.stack = X.env :: X.outer
  hf : X.env.frame = some X.env.locals
section
variable {P : Program} {w : World} {K : PySem.W.Frag} {mg : Str → Option Value} {base : Heap}
theorem start_rg {Y : Kx} {H : Hp} {g : G} {L n : Nat} {ps : List PV} {vs : List V} {N : List Str} (h : RVs Y H g L ps vs) : RG Y H g L (ps.map some ++ List.replicate (N.length - ps.length) none) (L2.start N vs) := by
  have hl := h.len
  refine ⟨by unfold L2.start; simp [hl], fun i p e => ?_⟩
  unfold L2.start
  by_cases hi : i < ps.length
  · rw [List.getElem?_append_left (by simpa using hi), List.getElem?_map] at e
    obtain ⟨q, e1, e2⟩ := Option.map_eq_some_iff.mp e
    cases e2
    obtain ⟨v, q1, q2⟩ := h.get e1
    exact ⟨v, by rw [List.getElem?_append_left (by simpa [hl] using hi), List.getElem?_map, q1] <;> rfl, q2⟩
  · rw [List.getElem?_append_right (by simpa using hi)] at e
    rw [List.getElem?_replicate] at e
    split at e <;> cases e
theorem fnP {x qual : Str} {st : Stmt} {dvs : List V} {kws : List (Str × V)} {f : Addr} {fd : FuncData} {N ps : List Str} {k np n : Nat} {body : SF} (F : FunD K x qual (defArgs st) (defBody st) (defScope st) dvs kws f fd) (S : FnScope N ps (defScope st)) (hnp : ps.length = np) (hn : N.length = n)
    (hbody : ∀ (X : Cx) (W : WX), X.prog = P → X.w = w → X.K = K → X.mg = mg → X.base = base → Body X W N (defScope st) k → Ss X W (defBody st) body) : FnOk P w K mg base (L2.CX P w) (k + 1) f fd ps (spP ⟨K, mg⟩ (runP np n body)) := by
  refine F.ok S (fun vs H Q E ⟨g, qs, h1, h2, h3⟩ => ?_) (fun cdv A outer s H vs Q E hr ⟨g, qs, h1, h2, h3⟩ => ?_)
  · unfold runP at h3
    split at h3
    · rename_i e
      rw [← h1.len, e, hnp]
    · exact h3.elim
  · unfold runP at h3
    split at h3
    · rename_i elen
      subst hn
      let X := cxOf (L2.CX P w) P w K mg base N qual (defScope st) f cdv A outer s H E
      have tk : Takes X (fun cls d _ H => E cls d H) := takes_of rfl rfl rfl rfl
      have hb := hbody X (fun cls d _ H => E cls d H) rfl rfl rfl rfl rfl ⟨rfl, rfl, rfl, fun _ => rfl, hr, tk, passes_of rfl, rfl, rfl⟩
      refine ⟨_, hb, g, _, [], ⟨fun n k xs e => by simp at e, fun n m ⟨_, hn⟩ => by simp at hn, fun n ⟨_, hn⟩ => by simp at hn, fun n ⟨_, hn⟩ => by simp at hn, h2⟩, start_rg (n := 0) h1, ?_⟩
      have gro : ∀ {H' : Hp} {g' : G} {S' : Sto}, Ext ⟨K, mg⟩ H g [] H' g' S' → Gro H g H' (endF g' S') := fun {H' g' S'} e => by
        refine ⟨fun a h => Or.inl (e.fr a h), fun a o h => e.frame a o h fun n ⟨_, hn⟩ => by simp at hn, fun a h => ?_, fun a h => ?_⟩
        · rcases h with h | ⟨n, hn, rfl⟩
          · exact e.rel.tr a (Or.inl h)
          · exact e.rel.tracked hn
        · rcases h with h | ⟨n, hn, rfl⟩
          · rcases e.nf a h with z | z | ⟨n, ⟨_, q⟩, _⟩
            · exact Or.inl z
            · exact Or.inr z
            · simp at q
          · rcases e.old n hn with ⟨⟨_, q⟩, _⟩ | q
            · simp at q
            · exact Or.inr q
      have cu : ∀ {H' : Hp} {g' : G} {S' : Sto}, CUp H' g' H' (Gp (endF g' S')) := fun {H' g' S'} => ⟨fun _ _ h _ => h, fun _ h => Or.inl h⟩
      generalize eb : body (qs.map some ++ List.replicate (N.length - qs.length) none) [] = r at h3
      cases r with
      | nx Γ' S' => exact fun g' H' σ' e1 _ => h3 H' _ .non (gro e1) RV.non
      | rt v S' =>
        intro g' H' x e1 rv
        have h3 : OKp ⟨K, mg⟩ H g (resP S' v) Q E := h3
        unfold resP at h3
        split at h3
        · rename_i q eq
          exact h3 H' _ x (gro e1) (frzV_ok e1.rel 9 v x q rv eq)
        · exact h3.elim
      | ex c fs Γ' S' =>
        intro g' H' σ' cls d e1 _ rx
        have h3 : OKp ⟨K, mg⟩ H g (if cleans (fs.map (·.2)) = true then .ex c fs else .bad) Q E := h3
        split at h3
        · rename_i cl
          refine h3 H' _ cls d (gro e1) ?_
          obtain ⟨q1, q2⟩ := rx
          refine ⟨q1, ?_⟩
          rcases q2 with q2 | ⟨dx, vs, z1, z2, z3⟩
          · exact Or.inl q2
          · exact Or.inr ⟨dx, vs, z1, z2, RVs.clean cu _ _ cl z3⟩
        · exact h3.elim
      | bk Γ' S' => exact h3.elim
      | ct Γ' S' => exact h3.elim
      | bad => exact h3.elim
    · exact h3.elim
theorem Cal.mkP {x qual : Str} {st : Stmt} {dvs : List V} {kws : List (Str × V)} {f : Addr} {fd : FuncData} {N ps : List Str} {k np n : Nat} {body : SF} (F : FunD K x qual (defArgs st) (defBody st) (defScope st) dvs kws f fd) (hm : mg x = some (.ref f)) (S : FnScope N ps (defScope st)) (b : Binds K fd ps []) (hnp : ps.length = np) (hn : N.length = n)
    (hbody : ∀ (X : Cx) (W : WX), X.prog = P → X.w = w → X.K = K → X.mg = mg → X.base = base → Body X W N (defScope st) k → Ss X W (defBody st) body) : Cal P w K mg base (k + 1) x (spP ⟨K, mg⟩ (runP np n body)) :=
  ⟨f, fd, ps, fnP F S hnp hn hbody, hm, F.kp, b⟩
end
end Pv
/-! Pv7: walks over lists, tuples, texts; comprehensions; defs that change what they are handed; lists changed. -/
namespace Pv
open PySem PySem.Spec PyProof.Rows L2
section
variable {X : Cx} {H H' H'' H0 : Hp} {g g' g'' g0 : G} {S S' S'' S0 : Sto} {W : WX} {a b c e o l tg elt : Expr} {es rest ifs : List Expr} {ta tb tc to te : EF} {tr : AF} {pos p apos cpos : Pos} {Γ : Gam} {σ : L2.St} {x : Str} {k j : Nat}
/-! ### walks -/
def walkB (S : Sto) : PV → Option (Stp × Nat)
  | .con _ .lst xs => some (stL xs, xs.length + 1)
  | .ref n => match S[n]?.join with
    | some (.lst, xs) => some (stR n, xs.length + 1)
    | _ => none
  | _ => none
def iL (t : EF) : IF := fun Γ S => (t Γ S).bind fun p S1 => match walkB S1 p with
  | some q => .ok q S1
  | none => .bad
def iT (t : EF) : IF := fun Γ S => (t Γ S).bind fun p S1 => match p with
  | .con _ .tup xs => .ok (stL xs, xs.length + 1) S1
  | _ => .bad
def iS (t : EF) : IF := fun Γ S => (t Γ S).bind fun p S1 => match p with
  | .str z => .ok (stL (strs1 z), z.cps.toList.length + 1) S1
  | _ => .bad
theorem walk_lst {Y : Kx} {p : PV} {v : V} {q : Stp × Nat} (rel : Rel Y H g S) (rv : RV Y H g S.length p v) (h : walkB S p = some q) : ∃ a, v = .ref a ∧ (∃ vs, SqL Y.K H a vs) ∧ JOK Y (Itl Y.K a) q.1 H g S := by
  cases p with
  | con m k xs =>
    cases k with
    | lst =>
      cases h
      have rv0 := rv
      simp only [RV] at rv
      obtain ⟨a, vs, rfl, h2, h3⟩ := rv
      refine ⟨a, rfl, ⟨vs, h2.rdd.lst⟩, fun g' H' S' i e => ?_⟩
      have rv2 := RV.up rel e _ _ rv0
      simp only [RV] at rv2
      obtain ⟨b, ws, eb, q2, q3⟩ := rv2
      cases eb
      have sq := q2.rdd.lst
      refine ⟨fun p hp => ?_, fun hp => ?_⟩
      · obtain ⟨y, z1, z2⟩ := q3.get (i := i) (p := p) (Option.some.inj hp)
        exact ⟨⟨ws, y, sq, z1⟩, fun u H2 ⟨u1, u2⟩ => by
          subst u1
          have := u2 ws sq
          rw [z1] at this; cases this
          exact ⟨g', Ext.refl e.rel, z2⟩⟩
      · exact ⟨ws, sq, by rw [← q3.len]; exact List.getElem?_eq_none_iff.mp (Option.some.inj hp)⟩
    | _ => cases h
  | ref n =>
    simp only [walkB] at h
    split at h
    · rename_i xs ej
      cases h
      have hn := join_some ej
      obtain ⟨o, vs, h1, h2, _, h4⟩ := rel.ob n _ _ hn
      simp only [RV] at rv
      obtain ⟨hl, rfl⟩ := rv
      cases h2
      refine ⟨_, rfl, ⟨vs, SqL.of h1⟩, fun g' H' S' i e => ?_⟩
      have hr : g'.r n = g.r n := e.rho n hl
      have get : ∀ z, stR n S' i = some z → ∃ ys ws, S'[n]? = some (some (.lst, ys)) ∧ H' (g.r n) = some (.lst ws) ∧ RVs Y H' g' S'.length ys ws ∧ z = ys[i]? := fun z hz => by
        unfold stR at hz
        split at hz
        · rename_i ys ej2
          have hn2 := join_some ej2
          obtain ⟨o, ws, z1, z2, _, z4⟩ := e.rel.ob n _ _ hn2
          cases z2
          rw [hr] at z1
          cases hz
          exact ⟨ys, ws, hn2, z1, z4, rfl⟩
        · cases hz
      refine ⟨fun p hp => ?_, fun hp => ?_⟩
      · obtain ⟨ys, ws, _, z1, z4, z5⟩ := get _ hp
        obtain ⟨y, u1, u2⟩ := z4.get (i := i) (p := p) z5.symm
        exact ⟨⟨ws, y, SqL.of z1, u1⟩, fun u H2 ⟨w1, w2⟩ => by
          subst w1
          have := w2 ws (SqL.of z1)
          rw [u1] at this; cases this
          exact ⟨g', Ext.refl e.rel, u2⟩⟩
      · obtain ⟨ys, ws, _, z1, z4, z5⟩ := get _ hp
        exact ⟨ws, SqL.of z1, by rw [← z4.len]; exact List.getElem?_eq_none_iff.mp z5.symm⟩
    · cases h
  | non => cases h
  | bl _ => cases h
  | int _ => cases h
  | str _ => cases h
  | fn _ => cases h
  | ty _ => cases h
theorem I.lst (hl : E X W l ta) : I X W tg l (iL ta) :=
  ⟨_, pi_list hl, fun σ H g Γ S Rr rel rg ok => ⟨g, Γ, S, rel, rg, OKw.mono (OKw.bind ok) fun p S1 g1 H1 _ e1 h1 x rx => by
    split at h1
    · rename_i q hq
      obtain ⟨a, rfl, hs, hJ⟩ := walk_lst e1.rel rx hq
      exact ⟨a, rfl, hs, OKw.ok e1.rel h1 _ hJ⟩
    · exact h1.elim⟩⟩
theorem jok_tup {Y : Kx} {m : Md} {xs : List PV} {v : V} (rel : Rel Y H g S) (rv : RV Y H g S.length (.con m .tup xs) v) : ∃ a, v = .ref a ∧ (∃ vs, SqT Y.K H a vs) ∧ JOK Y (Itt Y.K a) (stL xs) H g S := by
  have rv0 := rv
  simp only [RV] at rv
  obtain ⟨a, vs, rfl, h2, h3⟩ := rv
  refine ⟨a, rfl, ⟨vs, h2.rdd.tup⟩, fun g' H' S' i e => ?_⟩
  have rv2 := RV.up rel e _ _ rv0
  simp only [RV] at rv2
  obtain ⟨b, ws, eb, q2, q3⟩ := rv2
  cases eb
  have sq := q2.rdd.tup
  refine ⟨fun p hp => ?_, fun hp => ?_⟩
  · obtain ⟨y, z1, z2⟩ := q3.get (i := i) (p := p) (Option.some.inj hp)
    exact ⟨⟨ws, y, sq, z1⟩, fun u H2 ⟨u1, u2⟩ => by
      subst u1
      have := u2 ws sq
      rw [z1] at this; cases this
      exact ⟨g', Ext.refl e.rel, z2⟩⟩
  · exact ⟨ws, sq, by rw [← q3.len]; exact List.getElem?_eq_none_iff.mp (Option.some.inj hp)⟩
theorem I.tup (hl : E X W l ta) : I X W tg l (iT ta) :=
  ⟨_, pi_tup hl, fun σ H g Γ S Rr rel rg ok => ⟨g, Γ, S, rel, rg, OKw.mono (OKw.bind ok) fun p S1 g1 H1 _ e1 h1 x rx => by
    split at h1
    · obtain ⟨a, rfl, hs, hJ⟩ := jok_tup e1.rel rx
      exact ⟨a, rfl, hs, OKw.ok e1.rel h1 _ hJ⟩
    · exact h1.elim⟩⟩
theorem RVs.ofstrs {Y : Kx} {L : Nat} (l : List Nat) : RVs Y H g L (l.map fun c => .str ⟨#[c]⟩) (l.map fun c => V.str ⟨#[c]⟩) := by
  induction l with
  | nil => exact RVs.nil
  | cons i l ih => exact RVs.cons RV.str ih
theorem I.str (hl : E X W l ta) : I X W tg l (iS ta) :=
  ⟨_, pi_str hl, fun σ H g Γ S Rr rel rg ok => ⟨g, Γ, S, rel, rg, OKw.mono (OKw.bind ok) fun p S1 g1 H1 _ e1 h1 x rx => by
    split at h1
    · rename_i z _
      refine ⟨z, rx.str_inv, OKw.ok e1.rel h1 _ (jok_L e1.rel (RVs.ofstrs _) fun H' i => ⟨fun y h => ?_, fun h => ?_⟩)⟩
      · rw [List.getElem?_map] at h
        obtain ⟨c, q1, q2⟩ := Option.map_eq_some_iff.mp h
        have q3 : z.cps[i]? = some c := by simpa using q1
        refine ⟨(Array.getElem?_eq_some_iff.mp q3).1, fun y' H2 w => ?_⟩
        obtain ⟨w1, c', w2, w3⟩ := w
        rw [q3] at w2
        cases w2
        exact ⟨w3.trans q2, w1⟩
      · simp only [List.length_map, Array.length_toList] at h
        exact h
    · exact h1.elim⟩⟩
/-- what a walk reads, whichever it is (chosen by the value) -/
def iAny (t : EF) : IF := fun Γ S => (t Γ S).bind fun p S1 => match p with
  | .con _ .tup xs => .ok (stL xs, xs.length + 1) S1
  | .str z => .ok (stL (strs1 z), z.cps.toList.length + 1) S1
  | p => match walkB S1 p with
    | some q => .ok q S1
    | none => .bad
theorem pi_or {tg iter : Expr} {wi wi' : TI} (h : PI X tg iter wi) (h' : PI X tg iter wi') : PI X tg iter (fun σ H R => wi σ H R ∨ wi' σ H R) := ⟨fun pins s σ H R I q => by
  rcases q with q | q
  · exact h.run pins s σ H R I q
  · exact h'.run pins s σ H R I q⟩
theorem I.any (hl : E X W l ta) : I X W tg l (iAny ta) := by
  obtain ⟨w1, p1, s1⟩ := I.lst (tg := tg) hl
  obtain ⟨w2, p2, s2⟩ := I.tup (tg := tg) hl
  obtain ⟨w3, p3, s3⟩ := I.str (tg := tg) hl
  refine ⟨_, pi_or p1 (pi_or p2 p3), fun σ H g Γ S Rr rel rg ok => ?_⟩
  cases q : ta Γ S with
  | bad => simp only [iAny, q] at ok; exact ok.elim
  | ex c fs S1 => exact Or.inl (s1 σ H g Γ S Rr rel rg (by simp only [iAny, iL, q] at ok ⊢; exact ok))
  | ok v S1 =>
    have ok : OKw X W σ H g S (match v with
      | .con _ .tup xs => .ok (stL xs, xs.length + 1) S1
      | .str z => .ok (stL (strs1 z), z.cps.toList.length + 1) S1
      | p => match walkB S1 p with
        | some q => .ok q S1
        | none => .bad) (fun q S1 g1 H1 => ∀ (J : It), JOK (kx X) J q.1 H1 g1 S1 → Rr J H1) := by simp only [iAny, q] at ok; exact ok
    split at ok
    · exact Or.inr (Or.inl (s2 σ H g Γ S Rr rel rg (by simp only [iT, q]; exact ok)))
    · exact Or.inr (Or.inr (s3 σ H g Γ S Rr rel rg (by simp only [iS, q]; exact ok)))
    · exact Or.inl (s1 σ H g Γ S Rr rel rg (by simp only [iL, q]; exact ok))
/-! ### comprehensions -/
def wipeG (Γ : Gam) : List Nat → Gam
  | [] => Γ
  | v :: vs => (wipeG Γ vs).set v none
theorem RG.wipe {Y : Kx} {L : Nat} (h : RG Y H g L Γ σ) : ∀ vs, RG Y H g L (wipeG Γ vs) (L2.wipe σ vs)
  | [] => h
  | v :: vs => (RG.wipe h vs).unset
/-- the walk of a comprehension: what is kept, in order -/
def lcI (st : Stp) (gt : GF) (tt : BF) (te : EF) (Γ : Gam) : Nat → Nat → List PV → Sto → R (List PV)
  | 0, _, _, _ => .bad
  | m + 1, i, acc, S => match st S i with
    | none => .bad
    | some none => .ok acc S
    | some (some p) => match gt p Γ S with
      | .ok Γ1 S1 => match tt Γ1 S1 with
        | .ok true S2 => match te Γ1 S2 with
          | .ok v S3 => if acc.length < sizeLine then lcI st gt tt te Γ m (i + 1) (acc ++ [v]) S3 else .bad
          | _ => .bad
        | .ok false S2 => lcI st gt tt te Γ m (i + 1) acc S2
        | _ => .bad
      | _ => .bad
def eLc (mu : Bool) (it : IF) (gt : GF) (tt : BF) (te : EF) (vs : List Nat) : EF := fun Γ S => (it Γ S).bind fun q S1 => (lcI q.1 gt tt te (wipeG Γ vs) q.2 0 [] S1).bind fun acc S2 => .ok (newP mu .lst acc S2).1 (newP mu .lst acc S2).2
/-- the list that grows, beside the store -/
structure Grw (Y : Kx) (H0 : Hp) (g0 : G) (S0 : Sto) (D : Addr) (H : Hp) (g : G) (S : Sto) : Prop where
  ext : Ext Y H0 g0 S0 H g S
  no : H0 D = none
  own : ∀ n, Al S n → g.r n ≠ D
  fF : ¬ g.F D
  fT : ¬ g.T D
theorem Grw.step {Y : Kx} {D : Addr} {o : HO} (w : Grw Y H0 g0 S0 D H g S) (hD : H D = some o) (e : Ext Y H g S H' g' S') : Grw Y H0 g0 S0 D H' g' S' ∧ H' D = some o := by
  refine ⟨⟨w.ext.trans e, w.no, fun n hn z => ?_, fun z => ?_, fun z => ?_⟩, e.frame D o hD fun n hn => w.own n hn⟩
  · rcases e.old n hn with ⟨h1, h2⟩ | h1
    · exact w.own n h1 (h2.symm.trans z)
    · rw [z, hD] at h1; cases h1
  · rcases e.nf D z with z | z | ⟨n, hn, z⟩
    · exact w.fF z
    · rw [hD] at z; cases z
    · exact w.own n hn z
  · rw [e.tt] at z; exact w.fT z
theorem Grw.put {Y : Kx} {D : Addr} {o o' : HO} (w : Grw Y H0 g0 S0 D H g S) (hD : H D = some o) (hm : Mut (some o)) : Grw Y H0 g0 S0 D (upd H D o') g S ∧ Up H g S.length (upd H D o') g S.length := by
  have up : Up H g S.length (upd H D o') g S.length := ⟨fun a u h z => by
    refine (upd_ne fun e => ?_).trans h
    subst e
    rw [hD] at h
    cases h
    rcases z hm with z | z
    · exact w.fF z
    · exact w.fT z, fun _ h => h, fun _ h => h, fun _ _ => rfl, Nat.le_refl _⟩
  have r := w.ext.rel
  refine ⟨⟨⟨⟨fun n k xs q => ?_, r.inj, r.fF, r.fT, fun a z => ?_⟩, fun a u h z => ?_, w.ext.old, w.ext.rho, w.ext.len, w.ext.fr, w.ext.tt, fun a u h => ?_, w.ext.nf⟩, w.no, w.own, w.fF, w.fT⟩, up⟩
  · obtain ⟨u, vs, h1, h2, h3, h4⟩ := r.ob n k xs q
    exact ⟨u, vs, by rw [upd_ne (w.own n ⟨_, q⟩)]; exact h1, h2, h3, RVs.mono up _ _ h4⟩
  · by_cases z2 : a = D
    · exact ⟨o', by rw [z2, upd_same]⟩
    · rw [upd_ne z2]; exact r.tr a z
  · rw [upd_ne (ne_of_none h w.no)]; exact w.ext.frame a u h z
  · rw [upd_ne (ne_of_none h w.no)]; exact w.ext.trk a u h
theorem Grw.fin {Y : Kx} {D : Addr} {mu : Bool} {acc : List PV} {vs : List V} (w : Grw Y H0 g0 S0 D H g S) (hD : H D = some (.lst vs)) (hv : RVs Y H g S.length acc vs) :
    ∃ g', Ext Y H0 g0 S0 H g' (newP mu .lst acc S).2 ∧ RV Y H g' (newP mu .lst acc S).2.length (newP mu .lst acc S).1 (.ref D) := by
  have r := w.ext.rel
  cases mu with
  | false =>
    have up : Up H g S.length H (g.addF D) S.length := ⟨fun _ _ h _ => h, fun _ h => Or.inl h, fun _ h => h, fun _ _ => rfl, Nat.le_refl _⟩
    refine ⟨g.addF D, ⟨⟨fun n k xs q => ?_, r.inj, fun n hn z => ?_, r.fT, fun a z => ?_⟩, w.ext.frame, w.ext.old, w.ext.rho, w.ext.len, fun a h => Or.inl (w.ext.fr a h), w.ext.tt, w.ext.trk, fun a z => ?_⟩, ?_⟩
    · obtain ⟨u, ws, h1, h2, h3, h4⟩ := r.ob n k xs q
      exact ⟨u, ws, h1, h2, h3, RVs.mono up _ _ h4⟩
    · rcases z with z | z
      · exact r.fF n hn z
      · exact w.own n hn z
    · rcases z with (z | z) | z
      · exact r.tr a (Or.inl z)
      · exact ⟨_, z ▸ hD⟩
      · exact r.tr a (Or.inr z)
    · rcases z with z | z
      · exact w.ext.nf a z
      · exact Or.inr (Or.inl (z ▸ w.no))
    · show RV Y H (g.addF D) S.length (.con .own .lst acc) (.ref D)
      simp only [RV]
      exact ⟨D, vs, rfl, ⟨_, rfl, hD, fun _ => Or.inr rfl⟩, RVs.mono up _ _ hv⟩
  | true =>
    have up : Up H g S.length H (g.addR S.length D) (S.length + 1) := ⟨fun _ _ h _ => h, fun _ h => h, fun _ h => h, fun n h => if_neg (Nat.ne_of_lt h), Nat.le_succ _⟩
    have hlen : (S ++ [some (Kd.lst, acc)]).length = S.length + 1 := by simp
    have hal : ∀ n, Al (S ++ [some (Kd.lst, acc)]) n → (Al S n ∧ (g.addR S.length D).r n = g.r n) ∨ (n = S.length ∧ (g.addR S.length D).r n = D) := fun n hn => by
      obtain ⟨q, e⟩ := hn
      by_cases hl : n < S.length
      · rw [List.getElem?_append_left hl] at e
        exact Or.inl ⟨⟨q, e⟩, if_neg (Nat.ne_of_lt hl)⟩
      · have : n = S.length := by
          have := (List.getElem?_eq_some_iff.mp e).1
          rw [hlen] at this
          omega
        exact Or.inr ⟨this, if_pos this⟩
    refine ⟨g.addR S.length D, ⟨⟨fun n k xs q => ?_, fun n m hn hm e => ?_, fun n hn z => ?_, fun n hn z => ?_, fun a z => r.tr a z⟩, w.ext.frame, fun n hn => ?_, fun n hn => ?_, Nat.le_trans w.ext.len (by show S.length ≤ (S ++ [some (Kd.lst, acc)]).length; rw [hlen]; exact Nat.le_succ _), w.ext.fr, w.ext.tt, w.ext.trk, w.ext.nf⟩, ?_⟩
    · have q : (S ++ [some (Kd.lst, acc)])[n]? = some (some (k, xs)) := q
      show ∃ o vs, _ ∧ _ ∧ _ ∧ RVs Y H (g.addR S.length D) (S ++ [some (Kd.lst, acc)]).length xs vs
      rw [hlen]
      rcases hal n ⟨_, q⟩ with ⟨h1, h2⟩ | ⟨h1, h2⟩
      · rw [List.getElem?_append_left h1.lt] at q
        obtain ⟨u, ws, q1, q2, q3, q4⟩ := r.ob n k xs q
        exact ⟨u, ws, by rw [h2]; exact q1, q2, q3, RVs.mono up _ _ q4⟩
      · subst h1
        rw [List.getElem?_append_right (Nat.le_refl _)] at q
        simp only [Nat.sub_self, List.getElem?_cons_zero, Option.some.injEq, Prod.mk.injEq] at q
        obtain ⟨rfl, rfl⟩ := q
        exact ⟨_, vs, by rw [h2]; exact hD, rfl, by decide, RVs.mono up _ _ hv⟩
    · rcases hal n hn with ⟨h1, h2⟩ | ⟨h1, h2⟩
      · rcases hal m hm with ⟨h3, h4⟩ | ⟨h3, h4⟩
        · rw [h2, h4] at e
          exact r.inj n m h1 h3 e
        · rw [h2, h4] at e
          exact absurd e (w.own n h1)
      · rcases hal m hm with ⟨h3, h4⟩ | ⟨h3, h4⟩
        · rw [h2, h4] at e
          exact absurd e.symm (w.own m h3)
        · exact h1.trans h3.symm
    · have z : g.F ((g.addR S.length D).r n) := z
      rcases hal n hn with ⟨h1, h2⟩ | ⟨h1, h2⟩
      · rw [h2] at z; exact r.fF n h1 z
      · rw [h2] at z; exact w.fF z
    · have z : g.T ((g.addR S.length D).r n) := z
      rcases hal n hn with ⟨h1, h2⟩ | ⟨h1, h2⟩
      · rw [h2] at z; exact r.fT n h1 z
      · rw [h2] at z; exact w.fT z
    · rcases hal n hn with ⟨h1, h2⟩ | ⟨h1, h2⟩
      · rw [h2]; exact w.ext.old n h1
      · exact Or.inr (by rw [h2]; exact w.no)
    · exact (if_neg (Nat.ne_of_lt (Nat.lt_of_lt_of_le hn w.ext.len))).trans (w.ext.rho n hn)
    · show RV Y H (g.addR S.length D) (S ++ [some (Kd.lst, acc)]).length (.ref S.length) (.ref D)
      simp only [RV]
      exact ⟨by rw [hlen]; exact Nat.lt_succ_self _, by rw [show (g.addR S.length D).r S.length = D from if_pos rfl]⟩
/-- the targets of a comprehension: what they store are the block's own slots -/
structure CG (X : Cx) (gV : TG) (gt : GF) (vs : List Nat) : Prop where
  ok : ∀ (W : WX) (v : V) (σ0 : L2.St) (H : Hp) (g : G) (S : Sto) (Γ : Gam) (p : PV) (Q : L2.St → Hp → Prop), Rel X H g S → RG X H g S.length Γ (L2.wipe σ0 vs) → RV X H g S.length p v → ∀ Γ1 S1, gt p Γ S = .ok Γ1 S1 →
    (∀ σ2, S1 = S → RG X H g S.length Γ1 σ2 → L2.wipe σ2 vs = L2.wipe σ0 vs → Q σ2 H) → gV v (L2.wipe σ0 vs) H Q
theorem wipe_set {σ0 : L2.St} {i : Nat} {z : Option V} {vs : List Nat} (h : i ∈ vs) : L2.wipe (σ0.set i z) vs = L2.wipe σ0 vs := by
  induction vs with
  | nil => cases h
  | cons v vs ih =>
    unfold L2.wipe
    by_cases e : i ∈ vs
    · rw [ih e]
    · have e2 : i = v := by
        rcases List.mem_cons.mp h with h | h
        · exact h
        · exact absurd h e
      subst e2
      have : ∀ (vs : List Nat), i ∉ vs → L2.wipe (σ0.set i z) vs = (L2.wipe σ0 vs).set i z := fun vs => by
        induction vs with
        | nil => intro _; rfl
        | cons v vs ih =>
          intro h
          unfold L2.wipe
          have h1 : i ≠ v := fun e => h (by rw [e]; exact List.mem_cons_self)
          rw [ih fun e => h (List.mem_cons_of_mem _ e), List.set_comm _ _ h1]
      rw [this vs e, List.set_set]
theorem wipe_wipe (σ0 : L2.St) : ∀ (us vs : List Nat), (∀ i ∈ vs, i ∈ us) → L2.wipe (L2.wipe σ0 vs) us = L2.wipe σ0 us
  | us, [], _ => rfl
  | us, v :: vs, h => by
    show L2.wipe ((L2.wipe σ0 vs).set v none) us = _
    rw [wipe_set (h v List.mem_cons_self)]
    exact wipe_wipe σ0 us vs fun i hi => h i (List.mem_cons_of_mem _ hi)
theorem CG.name {i : Nat} {vs : List Nat} (hi : i ∈ vs) : CG X (gName i) (gN i) vs := ⟨fun W v σ0 H g S Γ p Q rel rg rv Γ1 S1 e k => by
  cases e
  exact k _ rfl (rg.set rv) (by rw [wipe_set hi]; exact wipe_wipe σ0 vs vs fun _ h => h)⟩
/-- names, for a tuple -/
def gNamesV : List Nat → TGs
  | [] => gNil
  | i :: is => gCons (gName i) (gNamesV is)
theorem cg_names : ∀ (is : List Nat) {vs : List Nat} {ps : List PV} {ws : List V} {σ1 σ0 : L2.St} {H : Hp} {g : G} {L : Nat} {Γ Γ1 : Gam} {S S1 : Sto} {Q : L2.St → Hp → Prop} {Y : Kx}, (∀ i ∈ is, i ∈ vs) → RG Y H g L Γ σ1 → L2.wipe σ1 vs = L2.wipe σ0 vs → RVs Y H g L ps ws → gNs is ps Γ S = .ok Γ1 S1 →
    (∀ σ2, S1 = S → RG Y H g L Γ1 σ2 → L2.wipe σ2 vs = L2.wipe σ0 vs → Q σ2 H) → gNamesV is ws σ1 H Q
  | [], vs, ps, ws, σ1, σ0, H, g, L, Γ, Γ1, S, S1, Q, Y, _, rg, hw, rv, e, k => by
    cases ps with
    | nil =>
      simp only [RVs] at rv
      cases e
      exact ⟨rv, k σ1 rfl rg hw⟩
    | cons _ _ => cases e
  | i :: is, vs, ps, ws, σ1, σ0, H, g, L, Γ, Γ1, S, S1, Q, Y, hi, rg, hw, rv, e, k => by
    cases ps with
    | nil => cases e
    | cons p ps =>
      simp only [RVs] at rv
      obtain ⟨v, r, rfl, h2, h3⟩ := rv
      exact ⟨v, r, rfl, cg_names is (fun i h => hi i (List.mem_cons_of_mem _ h)) (rg.set h2) (by rw [wipe_set (hi i List.mem_cons_self)]; exact hw) h3 e k⟩
theorem CG.tup {is : List Nat} {n : Nat} {vs : List Nat} (hi : ∀ i ∈ is, i ∈ vs) (hn : is.length = n) : CG X (gTup X.K n (gNamesV is)) (gT is) vs := ⟨fun W v σ0 H g S Γ p Q rel rg rv Γ1 S1 e k => by
  unfold gT at e
  split at e
  · rename_i xs hd
    obtain ⟨a, ws, rfl, h2, h3⟩ := deref_ok rel rv hd
    exact ⟨a, ws, rfl, h3.tup, by rw [← h2.len, gNs_len ⟨_, _, e⟩, hn], cg_names is hi rg (wipe_wipe σ0 vs vs fun _ h => h) h2 e k⟩
  · cases e⟩
abbrev W0 : WX := fun _ _ _ _ => False
theorem lc_imp {wi : TI} {gV : TG} {gt : GF} {tt : BF} {te : EF} {it : IF} {vs : List Nat} {mu : Bool} {X' : Cx} {W' : WX} (src : SrcOK X W wi it) (cg : CG X gV gt vs) {σ : L2.St} {H : Hp} {Q : VK} (hX : kx X' = kx X) (h : lift X W (eLc mu it gt tt te vs) σ H Q) :
    tLc wi gV (liftB X' W' tt) (lift X' W' te) vs σ H Q := by
  obtain ⟨g, Γ, S, rel, rg, ok⟩ := h
  refine src σ H g Γ S _ rel rg (OKw.mono (OKw.bind ok) fun q S1 g1 H1 _ e1 h1 J hJ D hD => ?_)
  have h1 : OKw X W σ H1 g1 S1 ((lcI q.1 gt tt te (wipeG Γ vs) q.2 0 [] S1).bind fun acc S2 => .ok (newP mu .lst acc S2).1 (newP mu .lst acc S2).2) (fun v S' g' H' => ∀ x, RV X H' g' S'.length v x → Q x H') := h1
  have noex : ∀ m i acc S, (∃ acc' S', lcI q.1 gt tt te (wipeG Γ vs) m i acc S = .ok acc' S') ∨ lcI q.1 gt tt te (wipeG Γ vs) m i acc S = .bad := fun m => by
    induction m with
    | zero => intro i acc S; exact Or.inr rfl
    | succ m ih =>
      intro i acc S
      unfold lcI
      split
      · exact Or.inr rfl
      · exact Or.inl ⟨_, _, rfl⟩
      · split
        · split
          · split
            · split
              · exact ih _ _ _
              · exact Or.inr rfl
            · exact Or.inr rfl
          · exact ih _ _ _
          · exact Or.inr rfl
        · exact Or.inr rfl
  obtain ⟨res, Sr, hres⟩ : ∃ res Sr, lcI q.1 gt tt te (wipeG Γ vs) q.2 0 [] S1 = .ok res Sr := by
    rcases noex q.2 0 [] S1 with h | h
    · exact h
    · rw [h] at h1; exact h1.elim
  rw [hres] at h1
  have fin : ∀ g' H', Ext X H1 g1 S1 H' g' (newP mu .lst res Sr).2 → ∀ x, RV X H' g' (newP mu .lst res Sr).2.length (newP mu .lst res Sr).1 x → Q x H' := fun g' H' e x rx => h1 g' H' e x rx
  have w0 : Grw X H1 g1 S1 D (upd H1 D (.lst [])) g1 S1 := by
    have r := e1.rel
    have up : Up H1 g1 S1.length (upd H1 D (.lst [])) g1 S1.length := ⟨fun a u h _ => by rw [upd_ne (ne_of_none h hD)]; exact h, fun _ h => h, fun _ h => h, fun _ _ => rfl, Nat.le_refl _⟩
    have own : ∀ n, Al S1 n → g1.r n ≠ D := fun n hn z => by
      obtain ⟨u, e⟩ := r.tracked hn
      rw [z, hD] at e; cases e
    refine ⟨⟨⟨fun n k xs q => ?_, r.inj, r.fF, r.fT, fun a z => ?_⟩, fun a u h _ => by rw [upd_ne (ne_of_none h hD)]; exact h, fun n hn => Or.inl ⟨hn, rfl⟩, fun _ _ => rfl, Nat.le_refl _, fun _ h => h, rfl, fun a u h => ⟨u, by rw [upd_ne (ne_of_none h hD)]; exact h⟩, fun _ h => Or.inl h⟩, hD, own, fun z => ?_, fun z => ?_⟩
    · obtain ⟨u, ws, q1, q2, q3, q4⟩ := r.ob n k xs q
      exact ⟨u, ws, by rw [upd_ne (own n ⟨_, q⟩)]; exact q1, q2, q3, RVs.mono up _ _ q4⟩
    · by_cases z2 : a = D
      · exact ⟨_, by rw [z2, upd_same]⟩
      · rw [upd_ne z2]; exact r.tr a z
    · obtain ⟨u, q⟩ := r.tr D (Or.inl z); rw [hD] at q; cases q
    · obtain ⟨u, q⟩ := r.tr D (Or.inr z); rw [hD] at q; cases q
  refine ⟨fun i m H2 => ∃ g2 S2 acc ws, Grw X H1 g1 S1 D H2 g2 S2 ∧ H2 D = some (.lst ws) ∧ RVs X H2 g2 S2.length acc ws ∧ lcI q.1 gt tt te (wipeG Γ vs) m i acc S2 = .ok res Sr, ⟨q.2, g1, S1, [], [], w0, upd_same, RVs.nil, hres⟩, ?_⟩
  rintro i m H2 ⟨g2, S2, acc, ws, w2, hD2, ra, hl⟩
  cases m with
  | zero => cases hl
  | succ m =>
    obtain ⟨j1, j2⟩ := hJ g2 H2 S2 i w2.ext
    unfold lcI at hl
    cases hst : q.1 S2 i with
    | none => rw [hst] at hl; cases hl
    | some z =>
      rw [hst] at hl
      cases z with
      | none =>
        cases hl
        obtain ⟨g', q1, q2⟩ := w2.fin (mu := mu) hD2 ra
        exact Or.inl ⟨j2 hst, fin g' H2 q1 _ q2⟩
      | some p =>
        obtain ⟨j3, j4⟩ := j1 p hst
        refine Or.inr ⟨j3, fun H3 => ∃ g3 S3 acc ws, Grw X H1 g1 S1 D H3 g3 S3 ∧ H3 D = some (.lst ws) ∧ RVs X H3 g3 S3.length acc ws ∧ lcI q.1 gt tt te (wipeG Γ vs) m (i + 1) acc S3 = .ok res Sr, fun H3 h3 => ⟨m, Nat.lt_succ_self m, h3⟩, fun x H3 y => ?_⟩
        obtain ⟨g3, e3, rvx⟩ := j4 x H3 y
        obtain ⟨w3, hD3⟩ := w2.step hD2 e3
        have ra3 := RVs.up w2.ext.rel e3 _ _ ra
        have rg3 : RG X H3 g3 S2.length (wipeG Γ vs) (L2.wipe σ vs) := RG.wipe ((rg.up rel e1).up e1.rel w3.ext) vs
        cases hgt : gt p (wipeG Γ vs) S2 with
        | bad => simp only [hgt] at hl; cases hl
        | ex c fs S => simp only [hgt] at hl; cases hl
        | ok Γ4 S4 =>
          simp only [hgt] at hl
          refine cg.ok W x σ H3 g3 S2 _ p _ w3.ext.rel rg3 rvx Γ4 S4 hgt fun σ4 eS rg4 hw => ?_
          subst eS
          refine ⟨hw, ?_⟩
          cases htt : tt Γ4 S4 with
          | bad => simp only [htt] at hl; cases hl
          | ex c fs S => simp only [htt] at hl; cases hl
          | ok bv S5 =>
            simp only [htt] at hl
            have hT : liftB X' W' tt σ4 H3 = fun Q => ∃ g Γ S, Rel (kx X) H3 g S ∧ RG (kx X) H3 g S.length Γ σ4 ∧ OKw (kx X) W' σ4 H3 g S (tt Γ S) fun b _ _ H' => Q b H' := by
              funext Q
              show (∃ g Γ S, Rel (kx X') H3 g S ∧ RG (kx X') H3 g S.length Γ σ4 ∧ OKw (kx X') W' σ4 H3 g S (tt Γ S) fun b _ _ H' => Q b H') = _
              rw [hX]
            rw [hT]
            refine ⟨g3, Γ4, S4, w3.ext.rel, rg4, ?_⟩
            rw [htt]
            intro g5 H5 e5
            obtain ⟨w5, hD5⟩ := w3.step hD3 e5
            have ra5 := RVs.up w3.ext.rel e5 _ _ ra3
            cases bv with
            | false =>
              rw [if_neg Bool.false_ne_true]
              exact ⟨g5, S5, acc, ws, w5, hD5, ra5, hl⟩
            | true =>
              rw [if_pos rfl]
              cases hte : te Γ4 S5 with
              | bad => simp only [hte] at hl; cases hl
              | ex c fs S => simp only [hte] at hl; cases hl
              | ok v S6 =>
                simp only [hte] at hl
                split at hl
                · rename_i hlen
                  have hE : ∀ Q, lift X' W' te σ4 H5 Q = ∃ g Γ S, Rel (kx X) H5 g S ∧ RG (kx X) H5 g S.length Γ σ4 ∧ OKw (kx X) W' σ4 H5 g S (te Γ S) fun v S' g' H' => ∀ x, RV (kx X) H' g' S'.length v x → Q x H' := by
                    intro Q
                    show (∃ g Γ S, Rel (kx X') H5 g S ∧ RG (kx X') H5 g S.length Γ σ4 ∧ OKw (kx X') W' σ4 H5 g S (te Γ S) fun v S' g' H' => ∀ x, RV (kx X') H' g' S'.length v x → Q x H') = _
                    rw [hX]
                  rw [hE]
                  refine ⟨g5, Γ4, S5, w5.ext.rel, rg4.up w3.ext.rel e5, ?_⟩
                  rw [hte]
                  intro g6 H6 e6 x6 rv6
                  obtain ⟨w6, hD6⟩ := w5.step hD5 e6
                  have ra6 := RVs.up w5.ext.rel e6 _ _ ra5
                  obtain ⟨w7, up7⟩ := w6.put (o' := .lst (ws ++ [x6])) hD6 trivial
                  refine ⟨ws, hD6, by rw [← ra6.len]; exact hlen, g6, S6, acc ++ [v], ws ++ [x6], w7, upd_same, (RVs.mono up7 _ _ ra6).append (RVs.cons (RV.mono up7 _ _ rv6) RVs.nil), hl⟩
                · cases hl
end
end Pv
/-! Pv8: comprehensions as expressions; defs over the store; lists changed; what is built in. -/
namespace Pv
open PySem PySem.Spec PyProof.Rows L2
section
variable {X : Cx} {H H' H'' H0 : Hp} {g g' g'' g0 : G} {S S' S'' S0 : Sto} {W : WX} {a b c e o l tg elt iter : Expr} {es rest ifs : List Expr} {ta tb tc to te : EF} {tr : AF} {pos p apos cpos spos : Pos} {Γ : Gam} {σ : L2.St} {x m : Str} {k j : Nat}
/-! ### comprehensions -/
def Ts (X : Cx) (W : WX) (ifs : List Expr) (t : BF) : Prop := PTs X ifs (liftB X W t)
def bYes : BF := fun _ S => .ok true S
theorem Ts.nil : Ts X W [] bYes := ⟨fun pins s σ H Q I ⟨g, Γ, S, rel, rg, ok⟩ => pts_nil.run pins s σ H Q I (OKw.ok rel ok)⟩
theorem Ts.one {t : BF} (h : B X W c t) : Ts X W [c] t := pts_one h
section
variable {scope : Scope} {own : List (Str × Nat)} {it : IF} {gV : TG} {gt : GF} {tt : BF}
theorem E.lc (mu : Bool) (hc : X.calm = true) (hN : X.N.Nodup) (hi : I X W tg iter it) (ok : BlkOk X.N X.env.scope scope own) (cg : CG X gV gt (own.map (·.2)))
    (hg : ∀ (s : Shared) (H : Hp) (C : Addr) (cl : List (Str × Addr)) (fp : List Addr), PG (X.blk s H scope (compEnvC scope cl C X.env) fp) tg gV)
    (ht : ∀ (s : Shared) (H : Hp) (C : Addr) (cl : List (Str × Addr)) (fp : List Addr), Ts (X.blk s H scope (compEnvC scope cl C X.env) fp) W0 ifs tt)
    (he : ∀ (s : Shared) (H : Hp) (C : Addr) (cl : List (Str × Addr)) (fp : List Addr), E (X.blk s H scope (compEnvC scope cl C X.env) fp) W0 elt te) (hs : ∀ x, foldedSetIterable iter X.env x = pure x := by intro _; rfl) :
    E X W (.ListComp elt [⟨tg, iter, ifs, 0⟩] scope pos) (eLc mu it gt tt te (own.map (·.2))) := by
  obtain ⟨wi, pi, src⟩ := hi
  exact pe_imp (pe_lc (tt := liftB X W0 tt) (te := lift X W0 te) hc hN pi ok hg ht he hs) fun σ H Q h => lc_imp (X' := X) (W' := W0) src cg rfl h
theorem St.setLc (mu : Bool) {i : Nat} {y : Str} {py : Pos} (hc : X.calm = true) (hN : X.N.Nodup) (hy : X.N[i]? = some y) (hyl : X.env.scope.names.lookup y = some .local)
    (hsw : swapsWith (.ListComp elt [⟨tg, iter, ifs, 0⟩] scope pos) (some (.Name y py)) spos.line X.env = pure true) (hi : I X W tg iter it) (ok : BlkOk X.N X.env.scope scope own) (cg : CG X gV gt (own.map (·.2)))
    (hg : ∀ (s : Shared) (H : Hp) (C : Addr) (cl : List (Str × Addr)) (fp : List Addr), PG (X.blk s H scope (compEnvC scope cl C X.env) fp) tg gV)
    (ht : ∀ (s : Shared) (H : Hp) (C : Addr) (cl : List (Str × Addr)) (fp : List Addr), Ts (X.blk s H scope (compEnvC scope cl C X.env) fp) W0 ifs tt)
    (he : ∀ (s : Shared) (H : Hp) (C : Addr) (cl : List (Str × Addr)) (fp : List Addr), E (X.blk s H scope (compEnvC scope cl C X.env) fp) W0 elt te) (hs : ∀ x, foldedSetIterable iter X.env x = pure x := by intro _; rfl) :
    St X W (.Assign [.Name y py] (.ListComp elt [⟨tg, iter, ifs, 0⟩] scope pos) spos) (sSet i (eLc mu it gt tt te (own.map (·.2)))) := by
  obtain ⟨wi, pi, src⟩ := hi
  exact ps_imp (ps_setLc (tt := liftB X W0 tt) (te := lift X W0 te) hc hN hy hyl hsw pi ok hg ht he hs) fun D σ H h => by
    obtain ⟨g, Γ, S, rel, rg, okk⟩ := h
    exact lc_imp (X' := X) (W' := W0) (mu := mu) src cg rfl ⟨g, Γ, S, rel, rg, OKw.mono (OKs.st rel rg okk) fun v S1 g1 H1 _ e1 h1 x rx => h1 g1 H1 _ (Ext.refl e1.rel) ((rg.up rel e1).set rx)⟩
end
/-! ### a def over the store -/
def runW (np n : Nat) (body : SF) (args : List PV) (S : Sto) : R PV := if args.length = np then (match body (args.map some ++ List.replicate (n - args.length) none) S with
  | .nx _ S' => .ok .non S'
  | .rt v S' => .ok v S'
  | .ex c fs _ S' => .ex c fs S'
  | _ => .bad) else .bad
def OKc (Y : Kx) (H : Hp) (g : G) (S : Sto) (r : R PV) (Q : VK) (E : XK) : Prop := match r with
  | .ok v S' => ∀ g' H' x, Ext Y H g S H' g' S' → RV Y H' g' S'.length v x → Q x H'
  | .ex c fs S' => ∀ g' H' cls d, Ext Y H g S H' g' S' → RX Y H' g' S'.length c fs cls d → E cls d H'
  | .bad => False
def spW (Y : Kx) (f : List PV → Sto → R PV) : Sp := fun vs H Q E => ∃ (g : G) (S : Sto) (ps : List PV), Rel Y H g S ∧ RVs Y H g S.length ps vs ∧ OKc Y H g S (f ps S) Q E
def eCallW (f : List PV → Sto → R PV) (t : AF) : EF := fun Γ S => (t Γ S).bind fun ps S1 => f ps S1
theorem E.callW {f : List PV → Sto → R PV} (c : Cal X.prog X.w X.K X.mg X.base k x (spW X f)) (hr : Room j X.A) (tk : Takes X W) (hg : Gl X x) (ha : A X W (e :: es) tr) (hk : k ≤ j := by decide)
    (hdb : (x == ("__debug__" : Str)) = false := by decide) (he : starEach (e :: es) X.env = (false, eval e X.env) :: starEach es X.env := by rfl) (hpl : (backTo pos (starEach es X.env)).any (·.1) = false := by rfl) :
    E X W (.Call (.Name x p) (e :: es) [] pos) (eCallW f tr) := by
  obtain ⟨fa, fd, ps, F, hm, kp, b⟩ := c.ex
  refine pe_imp (pe_callS F (hr.mono hk) hg hm kp b (passAt tk) ha hdb he hpl) fun σ H Q ⟨g, Γ, S, rel, rg, ok⟩ => ?_
  refine ⟨g, Γ, S, rel, rg, OKw.mono (OKw.bind ok) fun ps S1 g1 H1 _ e1 h1 xs rxs => ⟨g1, S1, ps, e1.rel, rxs, ?_⟩⟩
  cases q : f ps S1 with
  | ok v S2 => rw [q] at h1; exact fun g' H' x e2 rv => h1 g' H' e2 x rv
  | ex c fs S2 => rw [q] at h1; exact fun g' H' cls d e2 rx => h1 g' H' cls d e2 rx
  | bad => rw [q] at h1; exact h1
section
variable {P : Program} {w : World} {K : PySem.W.Frag} {mg : Str → Option Value} {base : Heap}
theorem Cal.mkW {x qual : Str} {st : Stmt} {dvs : List V} {kws : List (Str × V)} {f : Addr} {fd : FuncData} {N ps : List Str} {k np n : Nat} {body : SF} (F : FunD K x qual (defArgs st) (defBody st) (defScope st) dvs kws f fd) (hm : mg x = some (.ref f)) (S : FnScope N ps (defScope st)) (b : Binds K fd ps []) (hnp : ps.length = np) (hn : N.length = n)
    (hbody : ∀ (X : Cx) (W : WX), X.prog = P → X.w = w → X.K = K → X.mg = mg → X.base = base → Body X W N (defScope st) k → Ss X W (defBody st) body) : Cal P w K mg base (k + 1) x (spW ⟨K, mg⟩ (runW np n body)) := by
  refine ⟨f, fd, ps, F.ok S (fun vs H Q E ⟨g, S, qs, h0, h1, h3⟩ => ?_) (fun cdv A outer s H vs Q E hr ⟨g, S, qs, h0, h1, h3⟩ => ?_), hm, F.kp, b⟩
  · unfold runW at h3
    split at h3
    · rename_i e
      rw [← h1.len, e, hnp]
    · exact h3.elim
  · unfold runW at h3
    split at h3
    · rename_i elen
      subst hn
      let X := cxOf (L2.CX P w) P w K mg base N qual (defScope st) f cdv A outer s H E
      have tk : Takes X (fun cls d _ H => E cls d H) := takes_of rfl rfl rfl rfl
      have hb := hbody X (fun cls d _ H => E cls d H) rfl rfl rfl rfl rfl ⟨rfl, rfl, rfl, fun _ => rfl, hr, tk, passes_of rfl, rfl, rfl⟩
      refine ⟨_, hb, g, _, S, h0, start_rg (n := 0) h1, ?_⟩
      generalize eb : body (qs.map some ++ List.replicate (N.length - qs.length) none) S = r at h3
      cases r with
      | nx Γ' S' => exact fun g' H' σ' e1 _ => h3 g' H' .non e1 RV.non
      | rt v S' => exact fun g' H' x e1 rv => h3 g' H' x e1 rv
      | ex c fs Γ' S' => exact fun g' H' σ' cls d e1 _ rx => h3 g' H' cls d e1 rx
      | bk Γ' S' => exact h3.elim
      | ct Γ' S' => exact h3.elim
      | bad => exact h3.elim
    · exact h3.elim
end
/-! ### methods of what is built in -/
abbrev MF := PV → List PV → Sto → Option (PV × Sto)
/-- the receiver is of the type T -/
def tyP (T : String) (S : Sto) (p : PV) : Bool := match p with
  | .str _ => T == "str"
  | p => match deref S p with
    | some (.lst, _) => T == "list"
    | _ => false
def eM (T : String) (f : MF) (t : EF) (r : AF) : EF := fun Γ S => (t Γ S).bind fun p S1 => if tyP T S1 p = true then (r Γ S1).bind fun ps S2 => R.of (f p ps S2) else .bad
def MtF (X : Kx) (r : V → List V → Hp → VK → Prop) (f : MF) : Prop := ∀ (H : Hp) (g : G) (S : Sto) (p : PV) (ps : List PV) (x : V) (xs : List V) (w : PV) (S' : Sto) (Q : VK), Rel X H g S → RV X H g S.length p x → RVs X H g S.length ps xs → f p ps S = some (w, S') →
  (∀ g' H' z, Ext X H g S H' g' S' → RV X H' g' S'.length w z → Q z H') → r x xs H Q
theorem tyP_ok {Y : Kx} {T : String} {p : PV} {x : V} (rel : Rel Y H g S) (rv : RV Y H g S.length p x) (h : tyP T S p = true) : tyV Y.K T x H := by
  unfold tyP at h
  split at h
  · rw [rv.str_inv]
    exact beq_iff_eq.mp h
  · split at h
    · rename_i xs e
      obtain ⟨a, vs, rfl, h2, h3⟩ := deref_ok rel rv e
      exact Or.inl ⟨beq_iff_eq.mp h, vs, h3.lst⟩
    · cases h
theorem bm_imp {T : String} {r : V → List V → Hp → VK → Prop} {f : MF} (hf : MtF X r f) {σ : L2.St} {H : Hp} {Q : VK} (h : lift X W (eM T f to tr) σ H Q) : tBM X.K T r (lift X W to) (liftA X W tr) σ H Q := by
  obtain ⟨g, Γ, S, rel, rg, ok⟩ := h
  refine ⟨g, Γ, S, rel, rg, OKw.mono (OKw.bind ok) fun p S1 g1 H1 _ e1 h1 x rx => ?_⟩
  split at h1
  · rename_i ht
    refine ⟨tyP_ok e1.rel rx ht, g1, Γ, S1, e1.rel, rg.up rel e1, OKw.mono (OKw.bind h1) fun ps S2 g2 H2 _ e2 h2 xs rxs => ?_⟩
    cases hw : f p ps S2 with
    | none => rw [hw] at h2; exact h2.elim
    | some z =>
      obtain ⟨w, S3⟩ := z
      rw [hw] at h2
      exact hf H2 g2 S2 p ps x xs w S3 Q e2.rel (RV.up e1.rel e2 _ _ rx) rxs hw fun g' H' z e3 rz => h2 g' H' e3 z rz
  · exact h1.elim
section
variable {T id : String} {r : V → List V → Hp → VK → Prop} {f : MF}
theorem E.bm (pa : PlainAttrs T) (slot : Slot T m id) (hty : typeOf (.builtin id) = pure (.type "method_descriptor")) (hm : MtR X id r) (hf : MtF X r f) (ho : E X W o to) (ha : A X W (e :: es) tr)
    (hbase : attributeBase o m X.env (eval o X.env) = eval o X.env := by rfl)
    (hfew : ((backTo cpos (starEach (e :: es) X.env)).all (fun x => !x.1) && (backToKw cpos (keywordEach [] X.env)).all (fun x => x.1.isSome)
      && decide ((e :: es).length + ([] : List Keyword).length + (if ([] : List Keyword).isEmpty then 0 else 1) < 30)) = true := by rfl)
    (hline : (apos.endLine == cpos.line) = true := by rfl) (hs : starEach (e :: es) X.env = (false, eval e X.env) :: starEach es X.env := by rfl) (hplain : (backTo cpos (starEach es X.env)).any (·.1) = false := by rfl) :
    E X W (.Call (.Attribute o m apos) (e :: es) [] cpos) (eM T f to tr) :=
  pe_imp (pe_bm pa slot hty hm ho ha hbase hfew hline hs hplain) fun _ _ _ h => bm_imp hf h
theorem E.bm0 (pa : PlainAttrs T) (slot : Slot T m id) (hty : typeOf (.builtin id) = pure (.type "method_descriptor")) (hm : MtR X id r) (hf : MtF X r f) (h : ∀ {to : TE}, PE X o to → PE X (.Call (.Attribute o m apos) [] [] cpos) (tBM X.K T r to tNil)) (ho : E X W o to) :
    E X W (.Call (.Attribute o m apos) [] [] cpos) (eM T f to aNil) :=
  pe_imp (h ho) fun σ H Q ⟨g, Γ, S, rel, rg, ok⟩ => ⟨g, Γ, S, rel, rg, OKw.mono (OKw.bind ok) fun p S1 g1 H1 _ e1 h1 x rx => by
    split at h1
    · rename_i ht
      refine ⟨tyP_ok e1.rel rx ht, ?_⟩
      have h1 : OKw X W σ H1 g1 S1 (R.of (f p [] S1)) _ := h1
      cases hw : f p [] S1 with
      | none => rw [hw] at h1; exact h1.elim
      | some z =>
        obtain ⟨w, S3⟩ := z
        rw [hw] at h1
        exact hf H1 g1 S1 p [] x [] w S3 Q e1.rel rx RVs.nil hw fun g' H' z e3 rz => h1 g' H' e3 z rz
    · exact h1.elim⟩
end
/-! lists changed -/
def lstF (f : List PV → List PV → Option (PV × List PV)) : MF := fun p ps S => match p with
  | .ref n => match S[n]?.join with
    | some (.lst, xs) => (f xs ps).map fun q => (q.1, S.set n (some (.lst, q.2)))
    | _ => none
  | _ => none
theorem lstF_inv {f : List PV → List PV → Option (PV × List PV)} {Y : Kx} {p : PV} {ps : List PV} {x : V} {w : PV} (rel : Rel Y H g S) (rv : RV Y H g S.length p x) (h : lstF f p ps S = some (w, S')) :
    ∃ n xs vs xs', p = .ref n ∧ x = .ref (g.r n) ∧ S[n]? = some (some (.lst, xs)) ∧ H (g.r n) = some (.lst vs) ∧ RVs Y H g S.length xs vs ∧ f xs ps = some (w, xs') ∧ S' = S.set n (some (.lst, xs')) := by
  unfold lstF at h
  split at h
  · rename_i n
    split at h
    · rename_i xs ej
      simp only [Option.map_eq_some_iff] at h
      obtain ⟨q, h1, h2⟩ := h
      cases h2
      have hn := join_some ej
      obtain ⟨o, vs, q1, q2, _, q4⟩ := rel.ob n _ _ hn
      cases q2
      simp only [RV] at rv
      exact ⟨n, xs, vs, q.2, rfl, rv.2, hn, q1, q4, h1, rfl⟩
    · cases h
  · cases h
def appendF : MF := lstF fun xs ps => match ps with
  | [v] => if xs.length < sizeLine then some (.non, xs ++ [v]) else none
  | _ => none
theorem mtf_append : MtF X rAppend appendF := by
  intro H g S p ps x xs w S' Q rel rx rxs h k
  obtain ⟨n, ys, vs, ys', rfl, rfl, hn, hH, hr, hf, rfl⟩ := lstF_inv rel rx h
  split at hf
  · split at hf
    · rename_i v hl
      cases hf
      simp only [RVs] at rxs
      obtain ⟨u, r, rfl, h2, rfl⟩ := rxs
      exact ⟨g.r n, vs, u, rfl, rfl, hH, by rw [← hr.len]; exact hl, k g _ _ (set_ok rel hn (o' := .lst (vs ++ [u])) rfl (by decide) (hr.append (RVs.cons h2 RVs.nil))) RV.non⟩
    · cases hf
  · cases hf
def popF : MF := lstF fun xs ps => match ps with
  | [] => (xs[xs.length - 1]?).map fun v => (v, xs.dropLast)
  | _ => none
theorem RVs.dropLast {Y : Kx} {L : Nat} {xs : List PV} {vs : List V} (h : RVs Y H g L xs vs) : RVs Y H g L xs.dropLast vs.dropLast := by
  rw [List.dropLast_eq_take, List.dropLast_eq_take, ← h.len]
  exact h.take _
theorem mtf_pop : MtF X rPop popF := by
  intro H g S p ps x xs w S' Q rel rx rxs h k
  obtain ⟨n, ys, vs, ys', rfl, rfl, hn, hH, hr, hf, rfl⟩ := lstF_inv rel rx h
  split at hf
  · simp only [Option.map_eq_some_iff] at hf
    obtain ⟨v, h1, h2⟩ := hf
    cases h2
    simp only [RVs] at rxs
    subst rxs
    obtain ⟨u, q1, q2⟩ := hr.get h1
    have e := set_ok (k' := .lst) rel hn (o' := .lst vs.dropLast) rfl (by decide) hr.dropLast
    exact ⟨g.r n, vs, u, rfl, rfl, hH, by rw [← hr.len]; exact q1, k g _ _ e (RV.up rel e _ _ q2)⟩
  · cases hf
def reverseF : MF := lstF fun xs ps => match ps with
  | [] => some (.non, xs.reverse)
  | _ => none
theorem RVs.reverse {Y : Kx} {L : Nat} : ∀ {xs : List PV} {vs : List V}, RVs Y H g L xs vs → RVs Y H g L xs.reverse vs.reverse
  | [], _, h => by simp only [RVs] at h; subst h; exact RVs.nil
  | x :: xs, _, h => by
    simp only [RVs] at h
    obtain ⟨v, r, rfl, h2, h3⟩ := h
    rw [List.reverse_cons, List.reverse_cons]
    exact (RVs.reverse h3).append (RVs.cons h2 RVs.nil)
theorem mtf_reverse : MtF X rReverse reverseF := by
  intro H g S p ps x xs w S' Q rel rx rxs h k
  obtain ⟨n, ys, vs, ys', rfl, rfl, hn, hH, hr, hf, rfl⟩ := lstF_inv rel rx h
  split at hf
  · cases hf
    simp only [RVs] at rxs
    subst rxs
    exact ⟨g.r n, vs, rfl, rfl, hH, k g _ _ (set_ok rel hn (o' := .lst vs.reverse) rfl (by decide) hr.reverse) RV.non⟩
  · cases hf
/-! ### o[i] = v -/
abbrev SetF := PV → PV → PV → Sto → Option Sto
def gSubF (f : SetF) (to ti : EF) : GF := fun v Γ S => (to Γ S).bind fun o S1 => (ti Γ S1).bind fun i S2 => match f o i v S2 with
  | some S3 => .ok Γ S3
  | none => .bad
def SetOK (X : Kx) (t : TSet) (f : SetF) : Prop := ∀ (H : Hp) (g : G) (S : Sto) (o i v : PV) (x y z : V) (S' : Sto) (Q : Hp → Prop), Rel X H g S → RV X H g S.length o x → RV X H g S.length i y → RV X H g S.length v z → f o i v S = some S' → (∀ g' H', Ext X H g S H' g' S' → Q H') → t x y z H Q
theorem Tg.sub {t : TSet} {f : SetF} (ho : E X W o to) (hi : E X W a ta) (hs : PSet X t) (hf : SetOK X t f)
    (ha : ∀ v, assign (.Subscript o a pos) X.env v = (do
      let ov ← holding [v] (eval o X.env)
      let iv ← holding [v, ov] (eval a X.env)
      standAt pos
      holding [v, ov, iv] (setItem ov iv v)
      release [v, ov, iv] []) := by intro _; rfl) : Tg X W (.Subscript o a pos) (gSubF f to ta) :=
  pg_imp (pg_sub ho hi hs ha) fun v σ H Q ⟨g, Γ, S, p, rel, rg, rv, ok⟩ => by
    refine ⟨g, Γ, S, rel, rg, OKw.mono (OKw.bind ok) fun o' S1 g1 H1 _ e1 h1 x rx => ?_⟩
    refine ⟨g1, Γ, S1, e1.rel, rg.up rel e1, OKw.mono (OKw.bind h1) fun i' S2 g2 H2 _ e2 h2 y ry => ?_⟩
    split at h2
    · rename_i S3 hw
      exact hf H2 g2 S2 o' i' p x y v S3 _ e2.rel (RV.up e1.rel e2 _ _ rx) ry (RV.up e1.rel e2 _ _ (RV.up rel e1 _ _ rv)) hw fun g' H' e3 => h2 g' H' e3 _ (((rg.up rel e1).up e1.rel e2).up e2.rel e3)
    · exact h2.elim
def setLF : SetF := fun o i v S => match o, i with
  | .ref n, .int k => match S[n]?.join with
    | some (.lst, xs) => (ixN xs.length k).map fun j => S.set n (some (.lst, xs.set j v))
    | _ => none
  | _, _ => none
theorem set_lst : SetOK X rSetL setLF := by
  intro H g S o i v x y z S' Q rel rx ry rz h k
  unfold setLF at h
  split at h
  · rename_i n i
    split at h
    · rename_i xs ej
      simp only [Option.map_eq_some_iff] at h
      obtain ⟨j, h1, rfl⟩ := h
      have hn := join_some ej
      obtain ⟨o, vs, q1, q2, _, q4⟩ := rel.ob n _ _ hn
      cases q2
      simp only [RV] at rx ry
      exact ⟨g.r n, vs, i, j, rx.2, ry, q1, by rw [← q4.len]; exact h1, k g _ (set_ok rel hn (o' := .lst (vs.set j z)) rfl (by decide) (q4.set rz))⟩
    · cases h
  · cases h
/-! ### what is built in, called by name -/
def lenF : CF := fun ps S => match ps with
  | [.str z] => if z.length ≤ sizeLine then some (.int z.length, S) else none
  | [p] => match deref S p with
    | some (.lst, xs) => some (.int xs.length, S)
    | some (.tup, xs) => some (.int xs.length, S)
    | _ => none
  | _ => none
theorem CallR.or {f : Value} {r r' : List V → Hp → VK → Prop} (h : CallR X f r) (h' : CallR X f r') : CallR X f (fun xs H Q => r xs H Q ∨ r' xs H Q) := by
  intro pins s σ H xs us Q I rs q
  rcases q with q | q
  · exact h pins s σ H xs us Q I rs q
  · exact h' pins s σ H xs us Q I rs q
theorem cf_len : CallF X (fun xs H Q => (∃ p ys, xs = [.ref p] ∧ (SqL X.K H p ys ∨ SqT X.K H p ys) ∧ Q (.int ys.length) H) ∨ ∃ z, xs = [.str z] ∧ z.length ≤ sizeLine ∧ Q (.int z.length) H) lenF := by
  intro H g S ps xs w S' Q rel rxs h k
  unfold lenF at h
  split at h
  · split at h
    · cases h
      simp only [RVs, RV] at rxs
      obtain ⟨_, _, rfl, rfl, rfl⟩ := rxs
      exact Or.inr ⟨_, rfl, by assumption, k g H _ (Ext.refl rel) RV.int⟩
    · cases h
  · rename_i p _
    simp only [RVs] at rxs
    obtain ⟨v, _, rfl, h2, rfl⟩ := rxs
    split at h
    · rename_i ys e
      obtain ⟨a, vs, rfl, h4, h5⟩ := deref_ok rel h2 e
      cases h
      exact Or.inl ⟨a, vs, rfl, Or.inl h5.lst, by rw [← h4.len]; exact k g H _ (Ext.refl rel) RV.int⟩
    · rename_i ys e
      obtain ⟨a, vs, rfl, h4, h5⟩ := deref_ok rel h2 e
      cases h
      exact Or.inl ⟨a, vs, rfl, Or.inr h5.tup, by rw [← h4.len]; exact k g H _ (Ext.refl rel) RV.int⟩
    · cases h
  · cases h
theorem cr_len : CallR X (.builtin "len") (fun xs H Q => (∃ p ys, xs = [.ref p] ∧ (SqL X.K H p ys ∨ SqT X.K H p ys) ∧ Q (.int ys.length) H) ∨ ∃ z, xs = [.str z] ∧ z.length ≤ sizeLine ∧ Q (.int z.length) H) := CallR.or call_len_seq call_len_str
def listF (mu : Bool) : CF := fun ps S => match ps with
  | [p] => match deref S p with
    | some (.lst, xs) => some (newP mu .lst xs S)
    | some (.tup, xs) => some (newP mu .lst xs S)
    | _ => none
  | _ => none
theorem cf_list {mu : Bool} : CallF X (fun xs H Q => ∃ p ys, xs = [.ref p] ∧ (SqL X.K H p ys ∨ SqT X.K H p ys) ∧ ∀ l, H l = none → Q (.ref l) (upd H l (.lst ys))) (listF mu) := by
  intro H g S ps xs w S' Q rel rxs h k
  unfold listF at h
  split at h
  · simp only [RVs] at rxs
    obtain ⟨v, _, rfl, h2, rfl⟩ := rxs
    split at h
    · rename_i ys e
      obtain ⟨a, vs, rfl, h4, h5⟩ := deref_ok rel h2 e
      refine ⟨a, vs, rfl, Or.inl h5.lst, fun l hl => ?_⟩
      obtain ⟨g', z1, z2⟩ := new_ok (m := mu) rel hl (k := .lst) (o := .lst _) rfl (by decide) h4
      simp only [Option.some.injEq] at h
      rw [h] at z1 z2
      exact k g' _ _ z1 z2
    · rename_i ys e
      obtain ⟨a, vs, rfl, h4, h5⟩ := deref_ok rel h2 e
      refine ⟨a, vs, rfl, Or.inr h5.tup, fun l hl => ?_⟩
      obtain ⟨g', z1, z2⟩ := new_ok (m := mu) rel hl (k := .lst) (o := .lst _) rfl (by decide) h4
      simp only [Option.some.injEq] at h
      rw [h] at z1 z2
      exact k g' _ _ z1 z2
    · cases h
  · cases h
def tupleF : CF := fun ps S => match ps with
  | [.con m .tup xs] => some (.con m .tup xs, S)
  | [p] => match deref S p with
    | some (.lst, xs) => some (.con .own .tup xs, S)
    | _ => none
  | _ => none
theorem cf_tuple : CallF X (fun xs H Q => ∃ p ys, xs = [.ref p] ∧ ((SqL X.K H p ys ∧ ∀ l, H l = none → Q (.ref l) (upd H l (.tup ys))) ∨ (SqT X.K H p ys ∧ Q (.ref p) H))) tupleF := by
  intro H g S ps xs w S' Q rel rxs h k
  unfold tupleF at h
  split at h
  · cases h
    simp only [RVs] at rxs
    obtain ⟨v, _, rfl, h2, rfl⟩ := rxs
    have h2' := h2
    simp only [RV] at h2
    obtain ⟨a, vs, rfl, h4, h5⟩ := h2
    exact ⟨a, vs, rfl, Or.inr ⟨h4.rdd.tup, k g H _ (Ext.refl rel) h2'⟩⟩
  · simp only [RVs] at rxs
    obtain ⟨v, _, rfl, h2, rfl⟩ := rxs
    split at h
    · rename_i ys e
      obtain ⟨a, vs, rfl, h4, h5⟩ := deref_ok rel h2 e
      cases h
      refine ⟨a, vs, rfl, Or.inl ⟨h5.lst, fun l hl => ?_⟩⟩
      obtain ⟨z1, z2⟩ := newF_ok rel hl (k := .tup) (o := .tup _) rfl h4
      exact k _ _ _ z1 z2
    · cases h
  · cases h
def int1F : CF := fun ps S => match ps with
  | [.int i] => some (.int i, S)
  | [.bl b] => some (.int (if b then 1 else 0), S)
  | _ => none
theorem cf_int1 : CallF X (fun xs H Q => (∃ i, xs = [.int i] ∧ Q (.int i) H) ∨ ∃ k, xs = [.bl k] ∧ Q (.int (if k then 1 else 0)) H) int1F := by
  intro H g S ps xs w S' Q rel rxs h k
  unfold int1F at h
  split at h
  · cases h
    simp only [RVs, RV] at rxs
    obtain ⟨_, _, rfl, rfl, rfl⟩ := rxs
    exact Or.inl ⟨_, rfl, k g H _ (Ext.refl rel) RV.int⟩
  · cases h
    simp only [RVs, RV] at rxs
    obtain ⟨_, _, rfl, rfl, rfl⟩ := rxs
    exact Or.inr ⟨_, rfl, k g H _ (Ext.refl rel) RV.int⟩
  · cases h
def absF : CF := fun ps S => match ps with
  | [.int i] => some (.int (if i < 0 then -i else i), S)
  | _ => none
def ii2F (f : Int → Int → Int) : CF := fun ps S => match ps with
  | [.int i, .int j] => some (.int (f i j), S)
  | _ => none
theorem cf_ii2 {f : Int → Int → Int} : CallF X (fun xs H Q => ∃ i j, xs = [.int i, .int j] ∧ Q (.int (f i j)) H) (ii2F f) := by
  intro H g S ps xs w S' Q rel rxs h k
  unfold ii2F at h
  split at h
  · cases h
    simp only [RVs, RV] at rxs
    obtain ⟨_, _, rfl, rfl, _, _, rfl, rfl, rfl⟩ := rxs
    exact ⟨_, _, rfl, k g H _ (Ext.refl rel) RV.int⟩
  · cases h
def divmodF : CF := fun ps S => match ps with
  | [.int i, .int j] => if CDiv i j then some (.con .own .tup [.int (i / j), .int (i % j)], S) else none
  | _ => none
/-- isinstance of a built-in type -/
def tyName (S : Sto) : PV → Option String
  | .non => some "NoneType"
  | .bl _ => some "bool"
  | .int _ => some "int"
  | .str _ => some "str"
  | p => match deref S p with
    | some (.lst, _) => some "list"
    | some (.tup, _) => some "tuple"
    | _ => none
def isiB (a b : String) : Bool := a == b || (a == "bool" && b == "int")
def isiF : CF := fun ps S => match ps with
  | [p, .ty n] => match tyName S p with
    | some t => if kitB t n = some (isiB t n) then some (.bl (isiB t n), S) else none
    | none => none
  | _ => none
theorem tyName_ok {Y : Kx} {p : PV} {x : V} {t : String} (rel : Rel Y H g S) (rv : RV Y H g S.length p x) (h : tyName S p = some t) : TyX Y.K H x (.type t) := by
  unfold tyName at h
  split at h
  · cases h; rw [rv.non_inv]; exact .base .non
  · cases h; rw [rv.bl_inv]; exact .base (.bl _)
  · cases h; rw [rv.int_inv]; exact .base (.int _)
  · cases h; rw [rv.str_inv]; exact .base (.str _)
  · split at h
    · rename_i ys e
      obtain ⟨a, vs, rfl, h4, h5⟩ := deref_ok rel rv e
      cases h
      rcases h5 with ⟨o, q1, q2⟩ | q
      · cases q1
        rcases q2 with q2 | ⟨ob, q2⟩
        · exact .base (.lst q2)
        · exact .base (.frz q2)
      · obtain ⟨o, its, n, z1, z2, _⟩ := q
        exact .kList z1 z2
    · rename_i ys e
      obtain ⟨a, vs, rfl, h4, h5⟩ := deref_ok rel rv e
      cases h
      rcases h5 with ⟨o, q1, q2⟩ | q
      · cases q1
        rcases q2 with q2 | ⟨ob, q2⟩
        · exact .base (.tup q2)
        · exact .fTuple q2
      · obtain ⟨o, its, n, z1, z2, _⟩ := q
        exact .kTuple z1 z2
    · cases h
theorem cf_isi : CallF X (rIsi X.K) isiF := by
  intro H g S ps xs w S' Q rel rxs h k
  unfold isiF at h
  split at h
  · rename_i p n
    split at h
    · rename_i t et
      split at h
      · rename_i hk
        cases h
        simp only [RVs, RV] at rxs
        obtain ⟨v, _, rfl, h2, _, _, rfl, rfl, rfl⟩ := rxs
        exact ⟨v, .ty n, .type t, .type n, _, rfl, .ty n, tyName_ok rel h2 et, kit_ty hk, k g H _ (Ext.refl rel) RV.bl⟩
      · cases h
    · cases h
  · cases h
/-- a built-in's name as a value -/
theorem E.ty {x : Str} {n : String} (hg : Gl X x) (hm : X.mg x = none) (hv : bootBuiltins x = some (.type n)) (hn : x ≠ "__name__" := by decide) (hd : (x == ("__debug__" : Str)) = false := by decide) : E X W (.Name x pos) (eC (.ty n)) :=
  E.const (pe_bltn (v := .ty n) hg hm hv rfl hn hd) fun H g L => by simp only [RV]
/-- sep.join(list of texts) -/
def strsOf : List PV → Option (List Str)
  | [] => some []
  | .str b :: r => (strsOf r).map (b :: ·)
  | _ => none
theorem strsOf_rv {Y : Kx} {L : Nat} : ∀ {xs : List PV} {vs : List V} {bs : List Str}, RVs Y H g L xs vs → strsOf xs = some bs → vs = bs.map V.str
  | [], _, _, h, e => by simp only [RVs] at h; cases e; exact h
  | p :: r, vs, bs, h, e => by
    cases p <;> try (cases e; done)
    simp only [strsOf, Option.map_eq_some_iff] at e
    obtain ⟨cs, e1, rfl⟩ := e
    simp only [RVs, RV] at h
    obtain ⟨v, t, rfl, rfl, h3⟩ := h
    rw [strsOf_rv h3 e1] <;> rfl
def joinF : MF := fun p ps S => match p, ps with
  | .str a, [q] => match deref S q with
    | some (.lst, xs) => match strsOf xs with
      | some ys => if (ys.map (·.length)).sum + ys.length * a.length ≤ 16777216 then some (.str (Txt.join a ys), S) else none
      | none => none
    | _ => none
  | _, _ => none
theorem mtf_join : MtF X (fun x xs H Q => ∃ a p, ∃ ys : List Str, x = .str a ∧ xs = [.ref p] ∧ (SqL X.K H p (ys.map V.str) ∨ SqT X.K H p (ys.map V.str)) ∧
    (ys.map (·.length)).sum + ys.length * a.length ≤ 16777216 ∧ Q (.str (Txt.join a ys)) H) joinF := by
  intro H g S p ps x xs w S' Q rel rx rxs h k
  unfold joinF at h
  split at h
  · split at h
    · rename_i zs e
      split at h
      · rename_i ys ey
        split at h
        · rename_i hl
          cases h
          simp only [RVs] at rxs
          obtain ⟨v, _, rfl, h2, rfl⟩ := rxs
          obtain ⟨a, vs, rfl, h4, h5⟩ := deref_ok rel h2 e
          exact ⟨_, a, ys, rx.str_inv, rfl, Or.inl (by rw [← strsOf_rv h4 ey]; exact h5.lst), hl, k g H _ (Ext.refl rel) RV.str⟩
        · cases h
      · cases h
    · cases h
  · cases h
end
end Pv
/-! Pv9: within a def's body; the end. -/
namespace Pv
open PySem PySem.Spec PyProof.Rows L2
section
variable {X : Cx} {W : WX} {N : List Str} {sc : Scope} {k : Nat} {pos pos' : Pos} {e : Expr} {te : EF}
/-- a name of the def in slot i, to be read -/
def slC (N : List Str) (sc : Scope) (i : Nat) (x : Str) : Bool := decide (N[i]? = some x) && (match sc.names.lookup x with
  | some .local => true
  | some .cell => true
  | some .free => true
  | _ => false) && !(x == ("__debug__" : Str)) && !(x == ("__classdict__" : Str))
/-- .. to be stored -/
def slT (N : List Str) (sc : Scope) (i : Nat) (x : Str) : Bool := decide (N[i]? = some x) && (match sc.names.lookup x with
  | some .local => true
  | some .cell => true
  | _ => false)
theorem slC_ok {i : Nat} {x : Str} (h : slC N sc i x = true) : N[i]? = some x ∧ Vis sc x ∧ (x == ("__debug__" : Str)) = false ∧ (x == ("__classdict__" : Str)) = false := by
  unfold slC at h
  simp only [Bool.and_eq_true, decide_eq_true_eq, Bool.not_eq_true'] at h
  obtain ⟨⟨⟨h1, h2⟩, h3⟩, h4⟩ := h
  refine ⟨h1, ?_, h3, h4⟩
  split at h2
  · exact Or.inl (by assumption)
  · exact Or.inr (Or.inl (by assumption))
  · exact Or.inr (Or.inr (by assumption))
  · cases h2
theorem slT_ok {i : Nat} {x : Str} (h : slT N sc i x = true) : N[i]? = some x ∧ Loc sc x := by
  unfold slT at h
  simp only [Bool.and_eq_true, decide_eq_true_eq] at h
  obtain ⟨h1, h2⟩ := h
  refine ⟨h1, ?_⟩
  split at h2
  · exact Or.inl (by assumption)
  · exact Or.inr (by assumption)
  · cases h2
theorem E.vr (hN : X.N = N) (hs : X.env.scope = sc) (i : Nat) (x : Str) (h : slC N sc i x = true) : E X W (.Name x pos) (eV i) := by
  subst hN hs
  obtain ⟨h1, h2, h3, h4⟩ := slC_ok h
  exact E.var (pe_var h1 h2 h3 h4)
theorem Body.v (b : Body X W N sc k) (i : Nat) (x : Str) (h : slC N sc i x = true) : E X W (.Name x pos) (eV i) := E.vr b.hN b.sc i x h
theorem Body.pg (b : Body X W N sc k) (nd : N.Nodup) (i : Nat) (x : Str) (h : slT N sc i x = true) : PG X (.Name x pos) (gName i) := by
  have b1 := b.hN
  have b2 := b.sc
  subst b1 b2
  obtain ⟨h1, h2⟩ := slT_ok h
  exact pg_name nd h1 h2 (.inl (b.fn x))
theorem Body.t (b : Body X W N sc k) (nd : N.Nodup) (i : Nat) (x : Str) (h : slT N sc i x = true) : Tg X W (.Name x pos) (gN i) := Tg.name (b.pg nd i x h)
theorem Body.set (b : Body X W N sc k) (nd : N.Nodup) (i : Nat) (x : Str) (h : slT N sc i x = true) (he : E X W e te) (hs : swapsWith e (some (.Name x pos')) pos.line X.env = pure false := by rfl) : St X W (.Assign [.Name x pos'] e pos) (sSet i te) := by
  have b1 := b.hN
  have b2 := b.sc
  subst b1 b2
  obtain ⟨h1, h2⟩ := slT_ok h
  exact St.set (fun he => ps_set nd h1 h2 he hs (.inl (b.fn x))) he
theorem gl_of (hs : X.env.scope = sc) (x : Str) (h : sc.names.lookup x = some .globalImplicit) : Gl X x := by subst hs; exact h
theorem Body.gl (b : Body X W N sc k) (x : Str) (h : sc.names.lookup x = some .globalImplicit) : Gl X x := gl_of b.sc x h
theorem Body.hu (b : Body X W N sc k) : X.A.units + 64 < cLine := b.room.units
/-! within a comprehension's block -/
theorem blk_sc {s : Shared} {H : Hp} {scope : Scope} {C : Addr} {cl : List (Str × Addr)} {fp : List Addr} (hs : X.env.scope = sc) : (X.blk s H scope (compEnvC scope cl C X.env) fp).env.scope = relS scope sc := by subst hs; rfl
theorem blk_pg {s : Shared} {H : Hp} {scope : Scope} {C : Addr} {cl : List (Str × Addr)} {fp : List Addr} (hN : X.N = N) (hs : X.env.scope = sc) (nd : N.Nodup) (i : Nat) (x : Str)
    (h : (decide (N[i]? = some x) && (decide ((relS scope sc).names.lookup x = some .local) || (decide ((relS scope sc).names.lookup x = some .cell) && (scope.names.lookup x == some .cell)))) = true) : PG (X.blk s H scope (compEnvC scope cl C X.env) fp) (.Name x pos) (gName i) := by
  subst hN hs
  simp only [Bool.and_eq_true, Bool.or_eq_true, decide_eq_true_eq] at h
  obtain ⟨h1, h2⟩ := h
  rcases h2 with h2 | ⟨h2, h3⟩
  · exact pg_name nd h1 (Or.inl h2) (Or.inr h2)
  · exact pg_name nd h1 (Or.inr h2) (Or.inl h3)
theorem Body.blk (b : Body X W N sc k) {scope : Scope} {own : List (Str × Nat)} (h : blkC N sc scope own = true) : BlkOk X.N X.env.scope scope own := by
  have b1 := b.hN
  have b2 := b.sc
  subst b1 b2
  exact blkOk_by h
theorem Body.setLc (mu : Bool) (b : Body X W N sc k) (nd : N.Nodup) (i : Nat) (y : Str) {py spos : Pos} {elt tg iter : Expr} {ifs : List Expr} {scope : Scope} {own : List (Str × Nat)} {it : IF} {gV : TG} {gt : GF} {tt : BF} (hy : (decide (N[i]? = some y) && decide (sc.names.lookup y = some .local) && decide (sc.kind = .function) && (py.line == pos.line) && !(scope.names.any fun (n, k) => n == y && (k == .local || k == .cell))) = true)
    (hi : I X W tg iter it) (ok : blkC N sc scope own = true) (cg : CG X gV gt (own.map (·.2)))
    (hg : ∀ (s : Shared) (H : Hp) (C : Addr) (cl : List (Str × Addr)) (fp : List Addr), PG (X.blk s H scope (compEnvC scope cl C X.env) fp) tg gV)
    (ht : ∀ (s : Shared) (H : Hp) (C : Addr) (cl : List (Str × Addr)) (fp : List Addr), Ts (X.blk s H scope (compEnvC scope cl C X.env) fp) W0 ifs tt)
    (he : ∀ (s : Shared) (H : Hp) (C : Addr) (cl : List (Str × Addr)) (fp : List Addr), E (X.blk s H scope (compEnvC scope cl C X.env) fp) W0 elt te) (hs : ∀ x, foldedSetIterable iter X.env x = pure x := by intro _; rfl) :
    St X W (.Assign [.Name y py] (.ListComp elt [⟨tg, iter, ifs, 0⟩] scope pos) spos) (sSet i (eLc mu it gt tt te (own.map (·.2)))) := by
  have bk := b.blk ok
  have b1 := b.hN
  have b2 := b.sc
  subst b1 b2
  simp only [Bool.and_eq_true, decide_eq_true_eq, Bool.not_eq_true'] at hy
  obtain ⟨⟨⟨⟨h1, h2⟩, h3⟩, h4⟩, h5⟩ := hy
  exact St.setLc mu b.calm nd h1 h2 (sw_true h3 h2 h4 h5) hi bk cg hg ht he hs
end
/-- a module's name that holds a number, a text, a tuple of the top -/
theorem E.gint {X : Cx} {W : WX} {x : Str} {i : Int} {pos : Pos} (hg : Gl X x) (hm : ∃ t, X.mg x = some (.int i t)) (hd : (x == ("__debug__" : Str)) = false := by decide) : E X W (.Name x pos) (eC (.int i)) := by
  obtain ⟨t, hm⟩ := hm
  exact E.const (pe_glob (v := .int i) hg hm ⟨t, rfl⟩ hd) fun H g L => RV.int
theorem E.gstr {X : Cx} {W : WX} {x : Str} {i : Str} {pos : Pos} (hg : Gl X x) (hm : ∃ t, X.mg x = some (.str i t)) (hd : (x == ("__debug__" : Str)) = false := by decide) : E X W (.Name x pos) (eC (.str i)) := by
  obtain ⟨t, hm⟩ := hm
  exact E.const (pe_glob (v := .str i) hg hm ⟨t, rfl⟩ hd) fun H g L => RV.str
/-- a tuple of texts that the top has written -/
def WTup (K : PySem.W.Frag) (mg : Str → Option Value) (x : Str) (ss : List Str) : Prop := ∃ a, mg x = some (.ref a) ∧ Wr K a .tup (ss.map V.str)
theorem E.gtup {X : Cx} {W : WX} {x : Str} {ss : List Str} {pos : Pos} (hg : Gl X x) (hm : WTup X.K X.mg x ss) (hd : (x == ("__debug__" : Str)) = false := by decide) : E X W (.Name x pos) (eC (.con .out .tup (ss.map PV.str))) := by
  obtain ⟨a, h1, h2⟩ := hm
  exact E.const (pe_glob (v := .ref a) hg h1 rfl hd) fun H g L => by
    simp only [RV]
    exact ⟨a, _, rfl, Or.inr h2, RVs.mk_strs _⟩
theorem wtup_of {K : PySem.W.Frag} {h : Heap} {mg : Str → Option Value} {x : Str} {ss : List Str} (X : K.In h) (G : h.Ns mainGlobals mg) (c : (He.Fa.glo x).ok K = true) (d : He.tupB K x (ss.map fun s => .str s) = true) : WTup K mg x ss := by
  refine ⟨_, He.glo_ok X G c, ?_⟩
  have q := He.tupB_ok d (fun _ => none)
  rcases q with (q | ⟨o, q⟩) | q
  · cases q
  · cases q
  · obtain ⟨o, its, n, h1, h2, h3, h4, h5⟩ := q
    refine ⟨o, its, n, h1, h2, h3, h4, ?_⟩
    have e : (ss.map fun s => He.Dv.str s).map (He.Dv.v K) = ss.map V.str := by
      rw [List.map_map]; rfl
    rw [e] at h5
    exact h5
end Pv
/-! Pv10: in; defs by their place; the end of a law. -/
namespace Pv
open PySem PySem.Spec PyProof.Rows L2
section
variable {X : Cx} {W : WX} {N : List Str} {sc : Scope} {k : Nat}
def rInP (K : PySem.W.Frag) : R2 := fun x y H Q => ∃ d ds, Dp K H x d ∧ (Dp K H y (.list ds) ∨ Dp K H y (.tuple ds)) ∧ Pl d ∧ PyData.plainAll ds = true ∧ Q (.bl (ds.any fun z => PyData.eqv z d)) H
def rNinP (K : PySem.W.Frag) : R2 := fun x y H Q => ∃ d ds, Dp K H x d ∧ (Dp K H y (.list ds) ∨ Dp K H y (.tuple ds)) ∧ Pl d ∧ PyData.plainAll ds = true ∧ Q (.bl (!ds.any fun z => PyData.eqv z d)) H
theorem op_inP (hu : X.A.units + 65 < cLine) : OpR X (compareOp .In) (rInP X.K) := by
  intro pins s σ H x y v u Q I rx ry h
  obtain ⟨d, ds, hd, he, sd, se, q⟩ := h
  obtain ⟨as, r1⟩ := Dp.reads I d x v hd rx
  have := sd.2
  rcases he with he | he
  · obtain ⟨bs, r2⟩ := Dp.reads I (.list ds) y u he ry
    exact SeqAt.in_list_data r2 r1 se sd.1 (by omega) ⟨.bl _, H, I, rfl, q⟩
  · obtain ⟨bs, r2⟩ := Dp.reads I (.tuple ds) y u he ry
    exact SeqAt.in_tuple_data r2 r1 se sd.1 (by omega) ⟨.bl _, H, I, rfl, q⟩
theorem op_ninP (hu : X.A.units + 65 < cLine) : OpR X (compareOp .NotIn) (rNinP X.K) := by
  intro pins s σ H x y v u Q I rx ry h
  obtain ⟨d, ds, hd, he, sd, se, q⟩ := h
  obtain ⟨as, r1⟩ := Dp.reads I d x v hd rx
  have := sd.2
  rcases he with he | he
  · obtain ⟨bs, r2⟩ := Dp.reads I (.list ds) y u he ry
    exact SeqAt.notIn_list_data r2 r1 se sd.1 (by omega) ⟨.bl _, H, I, rfl, q⟩
  · obtain ⟨bs, r2⟩ := Dp.reads I (.tuple ds) y u he ry
    exact SeqAt.notIn_tuple_data r2 r1 se sd.1 (by omega) ⟨.bl _, H, I, rfl, q⟩
abbrev rInA (K : PySem.W.Frag) : R2 := fun x y H Q => (∃ (c : Nat) (z : Str), x = .str ⟨#[c]⟩ ∧ y = .str z ∧ Q (.bl (decide (c ∈ z.cps.toList))) H) ∨ (rIn K false x y H Q ∨ rInP K x y H Q)
abbrev rNinA (K : PySem.W.Frag) : R2 := fun x y H Q => (∃ (c : Nat) (z : Str), x = .str ⟨#[c]⟩ ∧ y = .str z ∧ Q (.bl (!decide (c ∈ z.cps.toList))) H) ∨ (rIn K true x y H Q ∨ rNinP K x y H Q)
theorem or_in (hu : X.A.units + 65 < cLine) : OpR X (compareOp .In) (rInA X.K) := OpR.or op_in_sign (OpR.or op_in_seq (op_inP hu))
theorem or_nin (hu : X.A.units + 65 < cLine) : OpR X (compareOp .NotIn) (rNinA X.K) := OpR.or op_notIn_sign (OpR.or op_notIn_seq (op_ninP hu))
theorem opf_in : OpF X (rInA X.K) inF :=
  inB_ok (fb := fun b => b) (fun c z H Q q => Or.inl ⟨c, z, rfl, rfl, q⟩) (fun x p ys H Q h1 h2 h3 q => Or.inr (Or.inl ⟨p, ys, rfl, h1, h2, h3, q⟩)) fun x y d ds H Q h1 h2 h3 h4 q => Or.inr (Or.inr ⟨d, ds, h1, h2, h3, h4, q⟩)
theorem opf_nin : OpF X (rNinA X.K) ninF :=
  inB_ok (fb := fun b => !b) (fun c z H Q q => Or.inl ⟨c, z, rfl, rfl, q⟩) (fun x p ys H Q h1 h2 h3 q => Or.inr (Or.inl ⟨p, ys, rfl, h1, h2, h3, q⟩)) fun x y d ds H Q h1 h2 h3 h4 q => Or.inr (Or.inr ⟨d, ds, h1, h2, h3, h4, q⟩)
theorem Body.hu65 (b : Body X W N sc k) : X.A.units + 65 < cLine := by have := b.room.un; omega
end
/-- a def of the text, where it stands, and how its arguments bind -/
def DefAt (K : PySem.W.Frag) (mg : Str → Option Value) (x : Str) (st : Stmt) (ps : List Str) : Prop :=
  ∃ (f : Addr) (fd : FuncData), FunD K x x (defArgs st) (defBody st) (defScope st) [] [] f fd ∧ mg x = some (.ref f) ∧ Binds K fd ps []
section
variable {P : Program} {w : World} {K : PySem.W.Frag} {mg : Str → Option Value} {base : Heap} {x : Str} {st : Stmt} {ps : List Str} {k : Nat}
theorem DefAt.badP (F : DefAt K mg x st ps) (f : List PV → RP) (h : ∀ a, f a = .bad) : Cal P w K mg base k x (spP ⟨K, mg⟩ f) := by
  obtain ⟨a, fd, F, hm, hb⟩ := F
  have no : ∀ vs H Q E, ¬ spP ⟨K, mg⟩ f vs H Q E := fun vs H Q E ⟨g, qs, _, _, h3⟩ => by rw [h] at h3; exact h3
  exact ⟨a, fd, ps, ⟨fun vs H Q E q => (no vs H Q E q).elim, fun A outer s H args us vs Q E _ _ _ _ q => (no vs H Q E q).elim⟩, hm, F.kp, hb⟩
theorem DefAt.badW (F : DefAt K mg x st ps) (f : List PV → Sto → R PV) (h : ∀ a S, f a S = .bad) : Cal P w K mg base k x (spW ⟨K, mg⟩ f) := by
  obtain ⟨a, fd, F, hm, hb⟩ := F
  have no : ∀ vs H Q E, ¬ spW ⟨K, mg⟩ f vs H Q E := fun vs H Q E ⟨g, S, qs, _, _, h3⟩ => by rw [h] at h3; exact h3
  exact ⟨a, fd, ps, ⟨fun vs H Q E q => (no vs H Q E q).elim, fun A outer s H args us vs Q E _ _ _ _ q => (no vs H Q E q).elim⟩, hm, F.kp, hb⟩
end
/-- the script as data -/
def scr (ns : List Int) : PV := .con .out .lst (ns.map PV.int)
/-- the end of a law row: the law's def, as a function of data, gives True -/
theorem law_end {l : PySem.W.OpenLaw} {n k : Nat} {q : Program} {loose : List Str} {XP : (Str → Option Value) → Heap → Prop} {YP : World → Heap → Prop} {d : DefRec} {x : Str}
    (hn : l.most = some n) (hn2 : n ≤ sizeLine) (hdf : d.params.defaults = []) (hr : Room k callerA)
    (F : ∀ (w : World) (mg : Str → Option Value) (fa : Addr) (h : Heap), YP w h → h.Ns mainGlobals mg → mg d.name = some (.ref fa) →
      ∃ (K : PySem.W.Frag) (f : List PV → RP) (fd : FuncData), K.In h ∧ (∀ (s : Shared) (u : Value), BindsTo s fd ⟨[u], []⟩ [(x, u)]) ∧ (∀ ns : List Int, ns.length ≤ n → f [scr ns] = .ok (.bl true)) ∧
        ∀ base : Heap, K.In base → base.Ns mainGlobals mg → FnOk l.prog w K mg base (L2.CX l.prog w) k fa fd [x] (spP ⟨K, mg⟩ f)) :
    PySem.W.WalkO q loose XP YP l.row.toRowW d [] (fun f vs => PySem.call f vs) := by
  refine Att.attach_call hn hdf fun w s₀ s₁ mg mb fa o pm cd doc a vs ns G Y ho hd hcd hmg hobj hints hlen hg => ?_
  obtain ⟨K, f, fd, KX, hb, hlaw, hF⟩ := F w mg fa _ Y G.T.g hmg
  refine law_call KX G.T.g G.T.b G.T.builtins G.T.nolimit hg hobj hints (Nat.le_trans hlen hn2) hr hF hb (fun H hO hS => ?_) fun H e s' hc => ?_
  · refine ⟨⟨fun _ => False, fun _ => False, fun _ => 0⟩, [scr ns], ?_, fun a z => ?_, ?_⟩
    · simp only [RVs, RV, scr]
      refine ⟨_, _, rfl, ⟨a, ns.map V.int, rfl, ?_, RVs.mk_ints ns⟩, rfl⟩
      rcases hS with (hS | ⟨ob, hS⟩) | hS
      · rcases hO a with e | ⟨o, xs, e⟩ <;> (rw [hS] at e; cases e)
      · exact Or.inl ⟨ob, _, rfl, hS⟩
      · exact Or.inr hS
    · rcases z with z | z <;> exact z.elim
    · rw [hlaw ns hlen]
      intro H' F' x _ rv
      simp only [RV] at rv
      exact rv
  · obtain ⟨_, _, _, _, _, _, _, _, _, _, _, _, z⟩ := hc
    exact z
end Pv
/-! Pv11: how the mirrors are reckoned: rules for simp, from the inside out. -/
namespace Pv
open PySem PySem.Spec PyProof.Rows L2
section
variable {Γ Γ' : Gam} {S S' : Sto} {a b c e : EF} {f f' : OF} {x y z : PV} {p q : PV} {i n m : Nat} {k : Bool} {t u : SF}
@[simp] theorem rbind_ok {α β : Type} {v : α} {k : α → Sto → R β} : (R.ok v S).bind k = k v S := (rfl)
@[simp] theorem rof_some {α : Type} {v : α} : R.of (some (v, S)) = .ok v S := (rfl)
@[simp] theorem rst_ok {α : Type} {v : α} {k : α → Sto → RS} : (R.ok v S).st Γ k = k v S := (rfl)
@[simp] theorem rbind_ex {α β : Type} {c : Str} {fs : List (Str × PV)} {k : α → Sto → R β} : (R.ex c fs S).bind k = .ex c fs S := (rfl)
@[simp] theorem rst_ex {α : Type} {c : Str} {fs : List (Str × PV)} {k : α → Sto → RS} : (R.ex (α := α) c fs S).st Γ k = .ex c fs Γ S := (rfl)
/-! names, constants -/
@[simp] theorem eC_eq : eC p Γ S = .ok p S := (rfl)
@[simp] theorem eV_0 {o : Gam} : eV 0 (some p :: o) S = .ok p S := (rfl)
@[simp] theorem eV_s {o : Gam} {z : Option PV} : eV (n + 1) (z :: o) S = eV n o S := (rfl)
@[simp] theorem eV_1 {o : Gam} {z : Option PV} : eV 1 (z :: o) S = eV 0 o S := (rfl)
/-! operators -/
def opK (f : OF) (b : EF) (Γ : Gam) (r : R PV) : R PV := r.bind fun x S1 => (b Γ S1).bind fun y S2 => R.of (f x y S2)
def opK2 (f : OF) (x : PV) (r : R PV) : R PV := r.bind fun y S2 => R.of (f x y S2)
@[simp] theorem eOp_eq : eOp f a b Γ S = opK f b Γ (a Γ S) := (rfl)
@[simp] theorem opK_ok : opK f b Γ (.ok x S) = opK2 f x (b Γ S) := (rfl)
@[simp] theorem opK2_ok : opK2 f x (.ok y S) = R.of (f x y S) := (rfl)
def chK (f f' : OF) (tb tc : EF) (Γ : Gam) (r : R PV) : R PV := r.bind fun x S1 => (tb Γ S1).bind fun y S2 => (R.of (f x y S2)).bind fun z S3 => match z with
  | .bl true => (tc Γ S3).bind fun w S4 => R.of (f' y w S4)
  | .bl false => .ok (.bl false) S3
  | _ => .bad
def chK2 (f f' : OF) (x : PV) (tc : EF) (Γ : Gam) (r : R PV) : R PV := r.bind fun y S2 => (R.of (f x y S2)).bind fun z S3 => match z with
  | .bl true => (tc Γ S3).bind fun w S4 => R.of (f' y w S4)
  | .bl false => .ok (.bl false) S3
  | _ => .bad
def chK3 (f' : OF) (y : PV) (tc : EF) (Γ : Gam) (r : R PV) : R PV := r.bind fun z S3 => match z with
  | .bl true => (tc Γ S3).bind fun w S4 => R.of (f' y w S4)
  | .bl false => .ok (.bl false) S3
  | _ => .bad
@[simp] theorem eChain_eq : eChain f f' a b c Γ S = chK f f' b c Γ (a Γ S) := (rfl)
@[simp] theorem chK_ok : chK f f' b c Γ (.ok x S) = chK2 f f' x c Γ (b Γ S) := (rfl)
@[simp] theorem chK2_ok : chK2 f f' x c Γ (.ok y S) = chK3 f' y c Γ (R.of (f x y S)) := (rfl)
@[simp] theorem chK3_t : chK3 f' y c Γ (.ok (.bl true) S) = opK2 f' y (c Γ S) := (rfl)
@[simp] theorem chK3_f : chK3 f' y c Γ (.ok (.bl false) S) = .ok (.bl false) S := (rfl)
def uK (f : PV → PV) (r : R PV) : R PV := r.bind fun p S1 => .ok (f p) S1
@[simp] theorem eU_eq {f : PV → PV} : eU f a Γ S = uK f (a Γ S) := (rfl)
@[simp] theorem uK_ok {f : PV → PV} : uK f (.ok p S) = .ok (f p) S := (rfl)
def negK (r : R PV) : R PV := r.bind fun v S1 => match v with
  | .int i => .ok (.int (-i)) S1
  | _ => .bad
@[simp] theorem eNeg_eq : eNeg a Γ S = negK (a Γ S) := (rfl)
@[simp] theorem negK_ok {i : Int} : negK (.ok (.int i) S) = .ok (.int (-i)) S := (rfl)
/-! tests -/
def beK (r : R PV) : R Bool := r.bind fun v S1 => match v with
  | .bl b => .ok b S1
  | _ => .bad
@[simp] theorem bE_eq : bE a Γ S = beK (a Γ S) := (rfl)
@[simp] theorem beK_ok : beK (.ok (.bl k) S) = .ok k S := (rfl)
def btK (r : R PV) : R Bool := r.bind fun v S1 => match truB S1 v with
  | some b => .ok b S1
  | none => .bad
def btK2 (S : Sto) : Option Bool → R Bool
  | some b => .ok b S
  | none => .bad
@[simp] theorem bT_eq : bT a Γ S = btK (a Γ S) := (rfl)
@[simp] theorem btK_ok : btK (.ok p S) = btK2 S (truB S p) := by unfold btK btK2; simp only [rbind_ok]
@[simp] theorem btK2_some : btK2 S (some k) = .ok k S := (rfl)
@[simp] theorem truB_bl : truB S (.bl k) = some k := (rfl)
@[simp] theorem truB_non : truB S .non = some false := (rfl)
@[simp] theorem truB_int {i : Int} : truB S (.int i) = some (decide (i ≠ 0)) := (rfl)
variable {s r : BF}
def andK (t : BF) (Γ : Gam) (r : R Bool) : R Bool := r.bind fun k S1 => if k = true then t Γ S1 else .ok false S1
def orK (t : BF) (Γ : Gam) (r : R Bool) : R Bool := r.bind fun k S1 => if k = true then .ok true S1 else t Γ S1
def notK (r : R Bool) : R Bool := r.bind fun k S1 => .ok (!k) S1
@[simp] theorem bAnd_eq : bAnd s r Γ S = andK r Γ (s Γ S) := (rfl)
@[simp] theorem bOr_eq : bOr s r Γ S = orK r Γ (s Γ S) := (rfl)
@[simp] theorem bNot_eq : bNot s Γ S = notK (s Γ S) := (rfl)
@[simp] theorem andK_t : andK r Γ (.ok true S) = r Γ S := (rfl)
@[simp] theorem andK_f : andK r Γ (.ok false S) = .ok false S := (rfl)
@[simp] theorem orK_t : orK r Γ (.ok true S) = .ok true S := (rfl)
@[simp] theorem orK_f : orK r Γ (.ok false S) = r Γ S := (rfl)
@[simp] theorem notK_ok : notK (.ok k S) = .ok (!k) S := (rfl)
def eandK (t : EF) (Γ : Gam) (r : R PV) : R PV := r.bind fun v S1 => match v with
  | .bl true => t Γ S1
  | .bl false => .ok (.bl false) S1
  | _ => .bad
def eorK (t : EF) (Γ : Gam) (r : R PV) : R PV := r.bind fun v S1 => match v with
  | .bl true => .ok (.bl true) S1
  | .bl false => t Γ S1
  | _ => .bad
def enotK (r : R PV) : R PV := r.bind fun v S1 => match v with
  | .bl k => .ok (.bl (!k)) S1
  | _ => .bad
@[simp] theorem eAnd_eq : eAnd a b Γ S = eandK b Γ (a Γ S) := (rfl)
@[simp] theorem eOr_eq : eOr a b Γ S = eorK b Γ (a Γ S) := (rfl)
@[simp] theorem eNot_eq : eNot a Γ S = enotK (a Γ S) := (rfl)
@[simp] theorem eandK_t : eandK b Γ (.ok (.bl true) S) = b Γ S := (rfl)
@[simp] theorem eandK_f : eandK b Γ (.ok (.bl false) S) = .ok (.bl false) S := (rfl)
@[simp] theorem eorK_t : eorK b Γ (.ok (.bl true) S) = .ok (.bl true) S := (rfl)
@[simp] theorem eorK_f : eorK b Γ (.ok (.bl false) S) = b Γ S := (rfl)
@[simp] theorem enotK_ok : enotK (.ok (.bl k) S) = .ok (.bl (!k)) S := (rfl)
def eifK (ta tb : EF) (Γ : Gam) (r : R Bool) : R PV := r.bind fun k S1 => if k = true then ta Γ S1 else tb Γ S1
@[simp] theorem eIf_eq : eIf s a b Γ S = eifK a b Γ (s Γ S) := (rfl)
@[simp] theorem eifK_ok : eifK a b Γ (.ok k S) = if k = true then a Γ S else b Γ S := (rfl)
/-! rows, displays, calls -/
variable {tr : AF} {ps : List PV}
def consK (r : AF) (Γ : Gam) (x : R PV) : R (List PV) := x.bind fun v S1 => (r Γ S1).bind fun vs S2 => .ok (v :: vs) S2
def consK2 (v : PV) (x : R (List PV)) : R (List PV) := x.bind fun vs S2 => .ok (v :: vs) S2
@[simp] theorem aNil_eq : aNil Γ S = .ok [] S := (rfl)
@[simp] theorem aCons_eq : aCons a tr Γ S = consK tr Γ (a Γ S) := (rfl)
@[simp] theorem consK_ok : consK tr Γ (.ok p S) = consK2 p (tr Γ S) := (rfl)
@[simp] theorem consK2_ok : consK2 p (.ok ps S) = .ok (p :: ps) S := (rfl)
def tupK (x : R (List PV)) : R PV := x.bind fun vs S1 => if vs.length ≤ sizeLine then .ok (.con .own .tup vs) S1 else .bad
def lstK (m : Bool) (x : R (List PV)) : R PV := x.bind fun vs S1 => if vs.length ≤ sizeLine then .ok (newP m .lst vs S1).1 (newP m .lst vs S1).2 else .bad
@[simp] theorem eTup_eq : eTup tr Γ S = tupK (tr Γ S) := (rfl)
@[simp] theorem eLst_eq : eLst k tr Γ S = lstK k (tr Γ S) := (rfl)
@[simp] theorem tupK_ok : tupK (.ok ps S) = if ps.length ≤ sizeLine then .ok (.con .own .tup ps) S else .bad := (rfl)
@[simp] theorem lstK_f : lstK false (.ok ps S) = if ps.length ≤ sizeLine then .ok (.con .own .lst ps) S else .bad := (rfl)
@[simp] theorem lstK_t : lstK true (.ok ps S) = if ps.length ≤ sizeLine then .ok (.ref S.length) (S ++ [some (.lst, ps)]) else .bad := (rfl)
def calK (f : CF) (x : R (List PV)) : R PV := x.bind fun ps S1 => R.of (f ps S1)
@[simp] theorem eCall_eq {f : CF} : eCall f tr Γ S = calK f (tr Γ S) := (rfl)
@[simp] theorem calK_ok {f : CF} : calK f (.ok ps S) = R.of (f ps S) := (rfl)
def calPK (f : List PV → RP) (x : R (List PV)) : R PV := x.bind fun ps S1 => match ps.mapM (lendV S1) with
  | some qs => match f qs with
    | .ok v => .ok v S1
    | .ex c fs => .ex c fs S1
    | .bad => .bad
  | none => .bad
def calPK2 (f : List PV → RP) (S : Sto) : Option (List PV) → R PV
  | some qs => match f qs with
    | .ok v => .ok v S
    | .ex c fs => .ex c fs S
    | .bad => .bad
  | none => .bad
def calPK3 (S : Sto) : RP → R PV
  | .ok v => .ok v S
  | .ex c fs => .ex c fs S
  | .bad => .bad
@[simp] theorem eCallP_eq {f : List PV → RP} : eCallP f tr Γ S = calPK f (tr Γ S) := (rfl)
@[simp] theorem calPK_ok {f : List PV → RP} : calPK f (.ok ps S) = calPK2 f S (ps.mapM (lendV S)) := by unfold calPK calPK2; simp only [rbind_ok]
@[simp] theorem calPK2_some {f : List PV → RP} {qs : List PV} : calPK2 f S (some qs) = calPK3 S (f qs) := by unfold calPK2 calPK3; rfl
@[simp] theorem calPK3_ok : calPK3 S (.ok p) = .ok p S := (rfl)
@[simp] theorem calPK3_ex {c : Str} {fs : List (Str × PV)} : calPK3 S (.ex c fs) = .ex c fs S := (rfl)
def calWK (f : List PV → Sto → R PV) (x : R (List PV)) : R PV := x.bind fun ps S1 => f ps S1
@[simp] theorem eCallW_eq {f : List PV → Sto → R PV} : eCallW f tr Γ S = calWK f (tr Γ S) := (rfl)
@[simp] theorem calWK_ok {f : List PV → Sto → R PV} : calWK f (.ok ps S) = f ps S := (rfl)
def emK (T : String) (f : MF) (r : AF) (Γ : Gam) (x : R PV) : R PV := x.bind fun p S1 => if tyP T S1 p = true then (r Γ S1).bind fun ps S2 => R.of (f p ps S2) else .bad
def emK2 (f : MF) (p : PV) (x : R (List PV)) : R PV := x.bind fun ps S2 => R.of (f p ps S2)
@[simp] theorem eM_eq {T : String} {f : MF} : eM T f a tr Γ S = emK T f tr Γ (a Γ S) := (rfl)
@[simp] theorem emK_ok {T : String} {f : MF} : emK T f tr Γ (.ok p S) = if tyP T S p = true then emK2 f p (tr Γ S) else .bad := (rfl)
@[simp] theorem emK2_ok {f : MF} : emK2 f p (.ok ps S) = R.of (f p ps S) := (rfl)
/-! statements -/
def seqK (u : SF) : RS → RS
  | .nx Γ1 S1 => u Γ1 S1
  | r => r
@[simp] theorem sSeq_eq : sSeq t u Γ S = seqK u (t Γ S) := by unfold sSeq seqK; rfl
@[simp] theorem seqK_nx : seqK u (.nx Γ S) = u Γ S := (rfl)
@[simp] theorem seqK_rt : seqK u (.rt p S) = .rt p S := (rfl)
@[simp] theorem seqK_bk : seqK u (.bk Γ S) = .bk Γ S := (rfl)
@[simp] theorem seqK_ct : seqK u (.ct Γ S) = .ct Γ S := (rfl)
@[simp] theorem seqK_ex {c : Str} {fs : List (Str × PV)} : seqK u (.ex c fs Γ S) = .ex c fs Γ S := (rfl)
@[simp] theorem sNext_eq : sNext Γ S = .nx Γ S := (rfl)
@[simp] theorem sBreak_eq : sBreak Γ S = .bk Γ S := (rfl)
def exprK (Γ : Gam) (r : R PV) : RS := r.st Γ fun _ S1 => .nx Γ S1
def retK (Γ : Gam) (r : R PV) : RS := r.st Γ fun v S1 => .rt v S1
def setK (i : Nat) (Γ : Gam) (r : R PV) : RS := r.st Γ fun v S1 => .nx (Γ.set i (some v)) S1
def ifK (t u : SF) (Γ : Gam) (r : R Bool) : RS := r.st Γ fun k S1 => if k = true then t Γ S1 else u Γ S1
@[simp] theorem sExpr_eq : sExpr a Γ S = exprK Γ (a Γ S) := (rfl)
@[simp] theorem exprK_ok : exprK Γ (.ok p S) = .nx Γ S := (rfl)
@[simp] theorem exprK_ex {c : Str} {fs : List (Str × PV)} : exprK Γ (.ex c fs S) = .ex c fs Γ S := (rfl)
@[simp] theorem sRet_eq : sRet a Γ S = retK Γ (a Γ S) := (rfl)
@[simp] theorem retK_ok : retK Γ (.ok p S) = .rt p S := (rfl)
@[simp] theorem retK_ex {c : Str} {fs : List (Str × PV)} : retK Γ (.ex c fs S) = .ex c fs Γ S := (rfl)
@[simp] theorem sSet_eq : sSet i a Γ S = setK i Γ (a Γ S) := (rfl)
@[simp] theorem setK_ok : setK i Γ (.ok p S) = .nx (Γ.set i (some p)) S := (rfl)
@[simp] theorem setK_ex {c : Str} {fs : List (Str × PV)} : setK i Γ (.ex c fs S) = .ex c fs Γ S := (rfl)
@[simp] theorem sIf_eq : sIf s t u Γ S = ifK t u Γ (s Γ S) := (rfl)
@[simp] theorem ifK_t : ifK t u Γ (.ok true S) = t Γ S := (rfl)
@[simp] theorem ifK_f : ifK t u Γ (.ok false S) = u Γ S := (rfl)
@[simp] theorem ifK_ex {c : Str} {fs : List (Str × PV)} : ifK t u Γ (.ex c fs S) = .ex c fs Γ S := (rfl)
def asgK (gt : GF) (Γ : Gam) (r : R PV) : RS := r.st Γ fun v S1 => (gt v Γ S1).st Γ fun Γ1 S2 => .nx Γ1 S2
def asgK2 (Γ : Gam) (r : R Gam) : RS := r.st Γ fun Γ1 S2 => .nx Γ1 S2
variable {gt : GF}
@[simp] theorem sAsg_eq : sAsg a gt Γ S = asgK gt Γ (a Γ S) := (rfl)
@[simp] theorem asgK_ok : asgK gt Γ (.ok p S) = asgK2 Γ (gt p Γ S) := (rfl)
@[simp] theorem asgK_ex {c : Str} {fs : List (Str × PV)} : asgK gt Γ (.ex c fs S) = .ex c fs Γ S := (rfl)
@[simp] theorem asgK2_ok : asgK2 Γ (.ok Γ' S) = .nx Γ' S := (rfl)
@[simp] theorem gN_eq : gN i p Γ S = .ok (Γ.set i (some p)) S := (rfl)
@[simp] theorem gNs_nil : gNs [] [] Γ S = .ok Γ S := (rfl)
@[simp] theorem gNs_cons {is : List Nat} : gNs (i :: is) (p :: ps) Γ S = gNs is ps (Γ.set i (some p)) S := (rfl)
@[simp] theorem gT_tup {is : List Nat} {m : Md} : gT is (.con m .tup ps) Γ S = gNs is ps Γ S := (rfl)
def subK (f : SetF) (v : PV) (ti : EF) (Γ : Gam) (r : R PV) : R Gam := r.bind fun o S1 => (ti Γ S1).bind fun i S2 => match f o i v S2 with
  | some S3 => .ok Γ S3
  | none => .bad
def subK2 (f : SetF) (v o : PV) (Γ : Gam) (r : R PV) : R Gam := r.bind fun i S2 => match f o i v S2 with
  | some S3 => .ok Γ S3
  | none => .bad
def subK3 (Γ : Gam) : Option Sto → R Gam
  | some S3 => .ok Γ S3
  | none => .bad
@[simp] theorem gSub_eq {f : SetF} : gSubF f a b p Γ S = subK f p b Γ (a Γ S) := (rfl)
@[simp] theorem subK_ok {f : SetF} : subK f p b Γ (.ok q S) = subK2 f p q Γ (b Γ S) := (rfl)
@[simp] theorem subK2_ok {f : SetF} : subK2 f p q Γ (.ok x S) = subK3 Γ (f q x p S) := by unfold subK2 subK3; simp only [rbind_ok]
@[simp] theorem subK3_some : subK3 Γ (some S) = .ok Γ S := (rfl)
def augK (i : Nat) (f : OF) (p : PV) (Γ : Gam) (r : R PV) : RS := r.st Γ fun q S1 => match f p q S1 with
  | some (v, S2) => .nx (Γ.set i (some v)) S2
  | none => .bad
def augK2 (i : Nat) (Γ : Gam) : Option (PV × Sto) → RS
  | some (v, S2) => .nx (Γ.set i (some v)) S2
  | none => .bad
@[simp] theorem augK_ok : augK i f p Γ (.ok q S) = augK2 i Γ (f p q S) := (rfl)
@[simp] theorem augK2_some : augK2 i Γ (some (p, S)) = .nx (Γ.set i (some p)) S := (rfl)
/-! loops -/
def forK (gt : GF) (t : SF) (Γ : Gam) (r : R (Stp × Nat)) : RS := r.st Γ fun q S1 => forI q.1 (sTurn gt t) q.2 0 Γ S1
@[simp] theorem sFor_eq {it : IF} : sFor it gt t Γ S = forK gt t Γ (it Γ S) := (rfl)
theorem forK_ok {st : Stp} : forK gt t Γ (.ok (st, n) S) = forI st (sTurn gt t) n 0 Γ S := rfl
theorem forK_L : forK gt t Γ (.ok (stL ps, ps.length + 1) S) = forL (sTurn gt t) ps Γ S := by
  show forI (stL ps) (sTurn gt t) (ps.length + 1) 0 Γ S = _
  have := forI_L (body := sTurn gt t) ps [] Γ S
  simpa using this
def r1K (r : R (List PV)) : R (Stp × Nat) := r.bind fun ps S1 => match ps with
  | [.int n] => if -(2 ^ 62) ≤ n ∧ n < 2 ^ 62 then .ok (stL (intsF 0 n.toNat), n.toNat + 1) S1 else .bad
  | _ => .bad
@[simp] theorem iR1_eq : iR1 tr Γ S = r1K (tr Γ S) := (rfl)
theorem intsF_len {lo : Int} {n : Nat} : (intsF lo n).length = n := by simp [intsF]
theorem r1K_ok {n : Int} (h : -(2 ^ 62) ≤ n ∧ n < 2 ^ 62) : r1K (.ok [.int n] S) = .ok (stL (intsF 0 n.toNat), (intsF 0 n.toNat).length + 1) S := by
  rw [intsF_len]
  exact if_pos h
def anyK (r : R PV) : R (Stp × Nat) := r.bind fun p S1 => match p with
  | .con _ .tup xs => .ok (stL xs, xs.length + 1) S1
  | .str z => .ok (stL (strs1 z), z.cps.toList.length + 1) S1
  | p => match walkB S1 p with
    | some q => .ok q S1
    | none => .bad
@[simp] theorem iAny_eq : iAny a Γ S = anyK (a Γ S) := (rfl)
@[simp] theorem anyK_tup {m : Md} : anyK (.ok (.con m .tup ps) S) = .ok (stL ps, ps.length + 1) S := (rfl)
@[simp] theorem anyK_lst {m : Md} : anyK (.ok (.con m .lst ps) S) = .ok (stL ps, ps.length + 1) S := (rfl)
@[simp] theorem anyK_str {z : Str} : anyK (.ok (.str z) S) = .ok (stL (strs1 z), (strs1 z).length + 1) S := by
  show R.ok _ _ = _
  rw [show (strs1 z).length = z.cps.toList.length from List.length_map ..]
@[simp] theorem sTurn_N {i : Nat} : sTurn (gN i) t p Γ S = t (Γ.set i (some p)) S := (rfl)
@[simp] theorem forL_nil {body : PV → SF} : forL body [] Γ S = .nx Γ S := (rfl)
def forK2 (body : PV → SF) (ps : List PV) : RS → RS
  | .nx Γ1 S1 => forL body ps Γ1 S1
  | .ct Γ1 S1 => forL body ps Γ1 S1
  | .bk Γ1 S1 => .nx Γ1 S1
  | r => r
theorem forL_cons {body : PV → SF} : forL body (p :: ps) Γ S = forK2 body ps (body p Γ S) := by unfold forK2; rw [forL] <;> cases body p Γ S <;> rfl
@[simp] theorem forK2_nx {body : PV → SF} : forK2 body ps (.nx Γ S) = forL body ps Γ S := (rfl)
@[simp] theorem forK2_ct {body : PV → SF} : forK2 body ps (.ct Γ S) = forL body ps Γ S := (rfl)
@[simp] theorem forK2_bk {body : PV → SF} : forK2 body ps (.bk Γ S) = .nx Γ S := (rfl)
@[simp] theorem forK2_rt {body : PV → SF} : forK2 body ps (.rt p S) = .rt p S := (rfl)
@[simp] theorem forK2_ex {body : PV → SF} {c : Str} {fs : List (Str × PV)} : forK2 body ps (.ex c fs Γ S) = .ex c fs Γ S := (rfl)
/-! by values -/
@[simp] theorem deref_con {m : Md} {k : Kd} : deref S (.con m k ps) = some (k, ps) := (rfl)
@[simp] theorem deref_ref : deref S (.ref n) = S[n]?.join := (rfl)
@[simp] theorem derefH_own {k : Kd} : derefH S (.con .own k ps) = some (k, ps) := (rfl)
@[simp] theorem derefH_lent {k : Kd} : derefH S (.con .lent k ps) = some (k, ps) := (rfl)
@[simp] theorem derefH_ref : derefH S (.ref n) = S[n]?.join := (rfl)
@[simp] theorem iOp0_int {f : Int → Int → PV} {i j : Int} : iOp0 f (.int i) (.int j) S = some (f i j, S) := (rfl)
@[simp] theorem iOp_int {C : Int → Int → Prop} [∀ i j, Decidable (C i j)] {f : Int → Int → PV} {i j : Int} : iOp C f (.int i) (.int j) S = if C i j then some (f i j, S) else none := (rfl)
@[simp] theorem addF_int {i j : Int} : addF k (.int i) (.int j) S = some (.int (i + j), S) := (rfl)
@[simp] theorem addF_str {i j : Str} : addF k (.str i) (.str j) S = if i.length + j.length ≤ sizeLine then some (.str (i ++ j), S) else none := (rfl)
@[simp] theorem mulF_int {i j : Int} : mulF k (.int i) (.int j) S = if CMul i j then some (.int (i * j), S) else none := (rfl)
@[simp] theorem eqF_int {i j : Int} : eqF (.int i) (.int j) S = some (.bl (decide (i = j)), S) := (rfl)
@[simp] theorem eqF_str {i j : Str} : eqF (.str i) (.str j) S = some (.bl (decide (i = j)), S) := (rfl)
@[simp] theorem eqF_bl {i j : Bool} : eqF (.bl i) (.bl j) S = some (.bl (decide (i = j)), S) := (rfl)
@[simp] theorem neF_int {i j : Int} : neF (.int i) (.int j) S = some (.bl (!decide (i = j)), S) := (rfl)
@[simp] theorem neF_str {i j : Str} : neF (.str i) (.str j) S = some (.bl (!decide (i = j)), S) := (rfl)
@[simp] theorem neF_bl {i j : Bool} : neF (.bl i) (.bl j) S = some (.bl (!decide (i = j)), S) := (rfl)
def ofO (S : Sto) : Option PV → Option (PV × Sto)
  | some v => some (v, S)
  | none => none
@[simp] theorem ofO_some : ofO S (some p) = some (p, S) := (rfl)
@[simp] theorem ixF_eq : ixF p q S = ofO S (ixB S p q) := by unfold ixF ofO <;> cases ixB S p q <;> rfl
@[simp] theorem ixB_lst {i : Int} {m : Md} : ixB S (.con m .lst ps) (.int i) = atI ps i := (rfl)
@[simp] theorem ixB_tup {i : Int} {m : Md} : ixB S (.con m .tup ps) (.int i) = atI ps i := (rfl)
def ixD (i : Int) : Option (Kd × List PV) → Option PV
  | some (.lst, xs) => atI xs i
  | some (.tup, xs) => atI xs i
  | _ => none
@[simp] theorem ixB_refD {i : Int} : ixB S (.ref n) (.int i) = ixD i S[n]?.join := by unfold ixB ixD; simp only [deref_ref] <;> rcases S[n]?.join with _ | ⟨k', xs'⟩ <;> first | rfl | (cases k' <;> rfl)
@[simp] theorem ixD_lst {i : Int} : ixD i (some (.lst, ps)) = atI ps i := (rfl)
def lenD (S : Sto) : Option (Kd × List PV) → Option (PV × Sto)
  | some (.lst, xs) => some (.int xs.length, S)
  | some (.tup, xs) => some (.int xs.length, S)
  | _ => none
@[simp] theorem lenF_refD : lenF [.ref n] S = lenD S S[n]?.join := by unfold lenF lenD; simp only [deref_ref] <;> rcases S[n]?.join with _ | ⟨k', xs'⟩ <;> first | rfl | (cases k' <;> rfl)
@[simp] theorem lenD_lst : lenD S (some (.lst, ps)) = some (.int ps.length, S) := (rfl)
def setD (n : Nat) (k : Int) (v : PV) (S : Sto) : Option (Kd × List PV) → Option Sto
  | some (.lst, xs) => (ixN xs.length k).map fun j => S.set n (some (.lst, xs.set j v))
  | _ => none
@[simp] theorem setLF_refD {i : Int} : setLF (.ref n) (.int i) p S = setD n i p S S[n]?.join := by unfold setLF setD; dsimp only <;> rcases S[n]?.join with _ | ⟨k', xs'⟩ <;> first | rfl | (cases k' <;> rfl)
@[simp] theorem setD_lst {i : Int} : setD n i p S (some (.lst, ps)) = (ixN ps.length i).map fun j => S.set n (some (.lst, ps.set j p)) := (rfl)
def lstD (f : List PV → List PV → Option (PV × List PV)) (n : Nat) (qs : List PV) (S : Sto) : Option (Kd × List PV) → Option (PV × Sto)
  | some (.lst, xs) => (f xs qs).map fun q => (q.1, S.set n (some (.lst, q.2)))
  | _ => none
@[simp] theorem lstF_refD {f : List PV → List PV → Option (PV × List PV)} {qs : List PV} : lstF f (.ref n) qs S = lstD f n qs S S[n]?.join := by unfold lstF lstD; dsimp only <;> rcases S[n]?.join with _ | ⟨k', xs'⟩ <;> first | rfl | (cases k' <;> rfl)
@[simp] theorem lstD_lst {f : List PV → List PV → Option (PV × List PV)} {qs : List PV} : lstD f n qs S (some (.lst, ps)) = (f ps qs).map fun q => (q.1, S.set n (some (.lst, q.2))) := (rfl)
@[simp] theorem appendF_eq : appendF = lstF fun xs ps => match ps with
  | [v] => if xs.length < sizeLine then some (.non, xs ++ [v]) else none
  | _ => none := rfl
@[simp] theorem popF_eq : popF = lstF fun xs ps => match ps with
  | [] => (xs[xs.length - 1]?).map fun v => (v, xs.dropLast)
  | _ => none := rfl
def tyD (T : String) : Option (Kd × List PV) → Bool
  | some (.lst, _) => T == "list"
  | _ => false
@[simp] theorem tyP_refD {T : String} : tyP T S (.ref n) = tyD T S[n]?.join := by unfold tyP tyD; simp only [deref_ref] <;> rcases S[n]?.join with _ | ⟨k', xs'⟩ <;> first | rfl | (cases k' <;> rfl)
@[simp] theorem tyD_lst {T : String} : tyD T (some (.lst, ps)) = (T == "list") := (rfl)
theorem ixB_ref {i : Int} (h : S[n]? = some (some (.lst, ps))) : ixB S (.ref n) (.int i) = atI ps i := by simp [ixB, h]
@[simp] theorem lenF_lst {m : Md} : lenF [.con m .lst ps] S = some (.int ps.length, S) := (rfl)
@[simp] theorem lenF_tup {m : Md} : lenF [.con m .tup ps] S = some (.int ps.length, S) := (rfl)
@[simp] theorem lenF_str {z : Str} : lenF [.str z] S = if z.length ≤ sizeLine then some (.int z.length, S) else none := (rfl)
theorem lenF_ref (h : S[n]? = some (some (.lst, ps))) : lenF [.ref n] S = some (.int ps.length, S) := by simp [lenF, h]
theorem setLF_ref {i : Int} (h : S[n]? = some (some (.lst, ps))) : setLF (.ref n) (.int i) p S = (ixN ps.length i).map fun j => S.set n (some (.lst, ps.set j p)) := by simp [setLF, h]
@[simp] theorem int1F_int {i : Int} : int1F [.int i] S = some (.int i, S) := (rfl)
@[simp] theorem absF_int {i : Int} : absF [.int i] S = some (.int (if i < 0 then -i else i), S) := (rfl)
theorem appendF_ref (h : S[n]? = some (some (.lst, ps))) (hl : ps.length < sizeLine) : appendF (.ref n) [p] S = some (.non, S.set n (some (.lst, ps ++ [p]))) := by simp [appendF, lstF, h, hl]
@[simp] theorem tyP_str {z : Str} : tyP "str" S (.str z) = true := (rfl)
/-! the ends of defs -/
def ruwK : RS → R PV
  | .nx _ S' => .ok .non S'
  | .rt v S' => .ok v S'
  | .ex c fs _ S' => .ex c fs S'
  | _ => .bad
theorem runW_eq {np n : Nat} {body : SF} (h : ps.length = np) : runW np n body ps S = ruwK (body (ps.map some ++ List.replicate (n - ps.length) none) S) := by
  unfold runW ruwK; rw [if_pos h] <;> cases body (ps.map some ++ List.replicate (n - ps.length) none) S <;> rfl
@[simp] theorem ruwK_nx : ruwK (.nx Γ S) = .ok .non S := (rfl)
@[simp] theorem ruwK_rt : ruwK (.rt p S) = .ok p S := (rfl)
@[simp] theorem ruwK_ex {c : Str} {fs : List (Str × PV)} : ruwK (.ex c fs Γ S) = .ex c fs S := (rfl)
def rupK : RS → RP
  | .nx _ _ => .ok .non
  | .rt v S => resP S v
  | .ex c fs _ S => if cleans (fs.map (·.2)) = true then .ex c fs else .bad
  | _ => .bad
theorem runP_eq {np n : Nat} {body : SF} (h : ps.length = np) : runP np n body ps = rupK (body (ps.map some ++ List.replicate (n - ps.length) none) []) := by
  unfold runP rupK; rw [if_pos h] <;> cases body (ps.map some ++ List.replicate (n - ps.length) none) [] <;> rfl
@[simp] theorem rupK_nx : rupK (.nx Γ S) = .ok .non := (rfl)
@[simp] theorem rupK_rt : rupK (.rt p S) = resP S p := (rfl)
@[simp] theorem rupK_ex {c : Str} {fs : List (Str × PV)} : rupK (.ex c fs Γ S) = if cleans (fs.map (·.2)) = true then .ex c fs else .bad := (rfl)
theorem resP_clean (h : clean p = true) : resP S p = .ok p := by unfold resP frzV; rw [if_pos h]
@[simp] theorem resP_bl : resP S (.bl k) = .ok (.bl k) := (rfl)
@[simp] theorem resP_int {i : Int} : resP S (.int i) = .ok (.int i) := (rfl)
@[simp] theorem resP_str {z : Str} : resP S (.str z) = .ok (.str z) := (rfl)
@[simp] theorem resP_non : resP S .non = .ok .non := (rfl)
theorem lend_clean (h : clean p = true) : lendV S p = some p := by unfold lendV; rw [if_pos h]
@[simp] theorem lend_int {i : Int} : lendV S (.int i) = some (.int i) := (rfl)
@[simp] theorem lend_str {z : Str} : lendV S (.str z) = some (.str z) := (rfl)
@[simp] theorem lend_bl : lendV S (.bl k) = some (.bl k) := (rfl)
@[simp] theorem lend_non : lendV S .non = some .non := (rfl)
theorem szl : (sizeLine : Nat) = 16777216 := rfl
end
end Pv
namespace Pv
open PySem PySem.Spec PyProof.Rows L2
/-! Plain tools: comprehensions as folds, the frames of a store. -/
/-- one turn of a comprehension: what is kept -/
def lcT (gt : GF) (tt : BF) (te : EF) (Γ : Gam) (p : PV) (S : Sto) : R (Option PV) := match gt p Γ S with
  | .ok Γ1 S1 => match tt Γ1 S1 with
    | .ok true S2 => match te Γ1 S2 with
      | .ok v S3 => .ok (some v) S3
      | _ => .bad
    | .ok false S2 => .ok none S2
    | _ => .bad
  | _ => .bad
def lcL (f : PV → Sto → R (Option PV)) : List PV → List PV → Sto → R (List PV)
  | [], acc, S => .ok acc S
  | p :: ps, acc, S => match f p S with
    | .ok (some v) S1 => if acc.length < sizeLine then lcL f ps (acc ++ [v]) S1 else .bad
    | .ok none S1 => lcL f ps acc S1
    | _ => .bad
theorem lcI_L {gt : GF} {tt : BF} {te : EF} {Γ : Gam} : ∀ (ps qs acc : List PV) (S : Sto), lcI (stL (qs ++ ps)) gt tt te Γ (ps.length + 1) qs.length acc S = lcL (lcT gt tt te Γ) ps acc S
  | [], qs, acc, S => by
    simp only [List.append_nil, List.length_nil, lcI, stL, lcL]
    rw [List.getElem?_eq_none (Nat.le_refl _)]
  | p :: ps, qs, acc, S => by
    have hd : (qs ++ p :: ps)[qs.length]? = some p := by simp
    have ih := fun a S' => lcI_L (gt := gt) (tt := tt) (te := te) (Γ := Γ) ps (qs ++ [p]) a S'
    simp only [List.append_assoc, List.cons_append, List.nil_append, List.length_append, List.length_cons, List.length_nil, Nat.zero_add] at ih
    rw [List.length_cons, lcI, lcL]
    simp only [stL]
    rw [hd]
    simp only [lcT]
    rcases gt p Γ S with ⟨Γ1, S1⟩ | _ | _ <;> try rfl
    dsimp only
    rcases tt Γ1 S1 with ⟨b, S2⟩ | _ | _ <;> try rfl
    cases b with
    | false => exact ih acc S2
    | true =>
      dsimp only
      rcases te Γ1 S2 with ⟨v, S3⟩ | _ | _ <;> try rfl
      dsimp only
      split
      · exact ih _ _
      · rfl
def lcK (mu : Bool) (gt : GF) (tt : BF) (te : EF) (Γ : Gam) (r : R (Stp × Nat)) : R PV := r.bind fun q S1 => (lcI q.1 gt tt te Γ q.2 0 [] S1).bind fun acc S2 => .ok (newP mu .lst acc S2).1 (newP mu .lst acc S2).2
def lcK2 (mu : Bool) : R (List PV) → R PV
  | .ok acc S2 => .ok (newP mu .lst acc S2).1 (newP mu .lst acc S2).2
  | .ex c fs S => .ex c fs S
  | .bad => .bad
variable {mu : Bool} {it : IF} {gt : GF} {tt : BF} {te : EF} {vs : List Nat} {Γ : Gam} {S : Sto} {ps acc : List PV}
@[simp] theorem eLc_eq : eLc mu it gt tt te vs Γ S = lcK mu gt tt te (wipeG Γ vs) (it Γ S) := (rfl)
@[simp] theorem lcK_L : lcK mu gt tt te Γ (.ok (stL ps, ps.length + 1) S) = lcK2 mu (lcL (lcT gt tt te Γ) ps [] S) := by
  have := lcI_L (gt := gt) (tt := tt) (te := te) (Γ := Γ) ps [] [] S
  simp only [List.nil_append, List.length_nil] at this
  unfold lcK lcK2
  simp only [rbind_ok]
  rw [this]
  cases lcL (lcT gt tt te Γ) ps [] S <;> rfl
@[simp] theorem lcK_L2 {m : Nat} (h : m = ps.length + 1) : lcK mu gt tt te Γ (.ok (stL ps, m) S) = lcK2 mu (lcL (lcT gt tt te Γ) ps [] S) := by subst h; exact lcK_L
@[simp] theorem forK_L2 {t : SF} {m : Nat} (h : m = ps.length + 1) : forK gt t Γ (.ok (stL ps, m) S) = forL (sTurn gt t) ps Γ S := by subst h; exact forK_L
@[simp] theorem lcK2_f : lcK2 false (.ok acc S) = .ok (.con .own .lst acc) S := (rfl)
@[simp] theorem lcK2_t : lcK2 true (.ok acc S) = .ok (.ref S.length) (S ++ [some (.lst, acc)]) := (rfl)
@[simp] theorem wipeG_nil : wipeG Γ [] = Γ := (rfl)
@[simp] theorem wipeG_cons {v : Nat} : wipeG Γ (v :: vs) = (wipeG Γ vs).set v none := (rfl)
/-- each turn keeps a value, the store keeps its shape -/
theorem lcL_inv {f : PV → Sto → R (Option PV)} (P : Sto → Prop) (Q : PV → Prop) : ∀ (ps acc : List PV) (S : Sto), (∀ p ∈ ps, ∀ S, P S → ∃ v S', f p S = .ok (some v) S' ∧ P S' ∧ Q v) → P S → acc.length + ps.length ≤ sizeLine → ∃ vs S', lcL f ps acc S = .ok (acc ++ vs) S' ∧ P S' ∧ (∀ v ∈ vs, Q v) ∧ vs.length = ps.length
  | [], acc, S, _, h, _ => ⟨[], S, by simp [lcL], h, by simp, rfl⟩
  | p :: ps, acc, S, F, h, hl => by
    obtain ⟨v, S1, e, h1, q⟩ := F p (by simp) S h
    simp only [List.length_cons] at hl
    obtain ⟨vs, S2, e2, h2, q2, l2⟩ := lcL_inv P Q ps (acc ++ [v]) S1 (fun p hp => F p (by simp [hp])) h1 (by simp; omega)
    refine ⟨v :: vs, S2, ?_, h2, ?_, by simp [l2]⟩
    · rw [lcL, e]; dsimp only; rw [if_pos (by omega), e2]; simp
    · intro u hu; rcases List.mem_cons.mp hu with rfl | hu
      · exact q
      · exact q2 u hu
theorem ixN_ok {l : Nat} {i : Int} (h0 : 0 ≤ i) (h1 : i < l) : ixN l i = some i.toNat := by
  unfold ixN
  rw [if_pos h0, if_pos (by omega)]
theorem atI_mem {α : Type} {xs : List α} {i : Int} (h0 : 0 ≤ i) (h1 : i < xs.length) : ∃ x, L2.atI xs i = some x ∧ x ∈ xs := by
  unfold L2.atI
  rw [ixN_ok h0 h1]
  have : i.toNat < xs.length := by omega
  exact ⟨xs[i.toNat], by simp [this], List.getElem_mem _⟩
@[simp] theorem newP_f {k : Kd} : newP false k ps S = (.con .own k ps, S) := (rfl)
@[simp] theorem newP_t {k : Kd} : newP true k ps S = (.ref S.length, S ++ [some (k, ps)]) := (rfl)
theorem addF_lst {m : Bool} {m1 m2 : Md} {qs : List PV} (h1 : m1 ≠ .out) (h2 : m2 ≠ .out) (h : ps.length + qs.length ≤ 16777216) : addF m (.con m1 .lst ps) (.con m2 .lst qs) S = some (newP m .lst (ps ++ qs) S) := by
  have : ps.length + qs.length ≤ sizeLine := h
  cases m1 <;> cases m2 <;> simp_all [addF]
theorem ixB_str1 {S : Sto} {z : Str} {i : Int} (hz : z.length ≤ sizeLine) (h0 : 0 ≤ i) (h1 : i < z.length) : ∃ c, ixB S (.str z) (.int i) = some (.str ⟨#[c]⟩) ∧ c ∈ z.cps.toList := by
  obtain ⟨c, e, m⟩ := atI_mem (xs := z.cps.toList) h0 (by simpa [Str.length] using h1)
  exact ⟨c, by simp [ixB, hz, e], m⟩
theorem sum_ones : ∀ (ys : List Str), (∀ y ∈ ys, y.length = 1) → (ys.map (·.length)).sum = ys.length
  | [], _ => rfl
  | y :: ys, h => by simp [h y (by simp), sum_ones ys (fun y hy => h y (by simp [hy]))]; omega
theorem len_app (a b : Str) : (a ++ b : Str).length = a.length + b.length := PySem.Str.length_append a b
theorem join_len {x : Str} (hx : x.length = 0) (ys : List Str) (h : ∀ y ∈ ys, y.length = 1) : (Txt.join x ys).length = ys.length := by
  show (Builtin.Str.glued x ys).length = _
  rw [StrLaws.glued_eq_join]
  induction ys with
  | nil => rfl
  | cons a r ih =>
    cases r with
    | nil => simpa [PySem.Str.join] using h a (by simp)
    | cons b r =>
      have := ih (fun y hy => h y (by simp at hy ⊢; exact Or.inr hy))
      simp only [PySem.Str.join, len_app, this, h a (by simp), hx, List.length_cons]; omega
theorem inB_strs {S : Sto} {m : Md} {k : Kd} (hk : k = .lst ∨ k = .tup) (w : Str) (l : List Str) : inB S (.str w) (.con m k (l.map PV.str)) = some (decide (w ∈ l)) := by
  have f : (l.map PV.str).all flatP = true := by simp [flatP]
  have g : ((l.map PV.str).any fun y => eqP y (.str w)) = decide (w ∈ l) := by
    induction l with
    | nil => rfl
    | cons a l ih =>
      have ih := ih (by simp [flatP])
      rw [List.map_cons, List.any_cons, ih]
      have e : (a == w) = decide (w = a) := by
        by_cases h : a = w
        · subst h; simp
        · have h' : ¬ w = a := fun q => h q.symm
          simp only [h', decide_false]
          exact Bool.eq_false_iff.mpr (fun q => h (eq_of_beq q))
      simp [eqP, e]
  simp only [inB, deref_con, f, flatP, hk, and_self, if_true, g]
theorem inF_strs {S : Sto} {m : Md} {k : Kd} (hk : k = .lst ∨ k = .tup) (w : Str) (l : List Str) : inF (.str w) (.con m k (l.map PV.str)) S = some (.bl (decide (w ∈ l)), S) := by
  unfold inF; rw [inB_strs hk]; rfl
theorem ninF_strs {S : Sto} {m : Md} {k : Kd} (hk : k = .lst ∨ k = .tup) (w : Str) (l : List Str) : ninF (.str w) (.con m k (l.map PV.str)) S = some (.bl (!decide (w ∈ l)), S) := by
  unfold ninF; rw [inB_strs hk]; rfl
end Pv
namespace Pv
open PySem PySem.Spec PyProof.Rows L2
/-! Exceptions: raise, try. -/
variable {X : Cx} {W : WX} {K : PySem.W.Frag} {mg : Str → Option Value}
/-- an exception class of the program over ValueError, without an own __init__ -/
structure ExcC (K : PySem.W.Frag) (mg : Str → Option Value) (x : Str) (C : Addr) : Prop where
  g : mg x = some (.ref C)
  q : PySem.W.excIn K C He.veBase "ValueError.__new__" = true
  k : PySem.W.keepIn K (.ref C) = true
  b : PySem.W.subIn K (.ref C) (.type "BaseException") = some true
  t : PySem.W.typeIn K (.ref C) = some (.type "type")
theorem pmk_own0 {x : Str} {C : Addr} {p pos : Pos} (T : ExcC X.K X.mg x C) (hg : Gl X x) (hdb : (x == ("__debug__" : Str)) = false := by decide) :
    PMk X (.Call (.Name x p) [] [] pos) (fun _ H Q => Q (.ref C) none H) := by
  intro pins s σ H Q I h
  refine wpAny_Call_Name_kw (ld_glob I hg T.g ?_ hdb)
  refine PySem.W.callWith_K0 I.kIn T.k ?_
  show wpAny _ _ (call (.ref C) []) _ _ _
  obtain ⟨bm, N, nm, qn, bs, hdct, sn, sub, ab, col, dd, k0, k1, k2, k3, k5, mN, hC, hN, hni, T'⟩ := exc_obj I.kIn T.q
  refine wpAny_call_exc_subT F.excBase_ValueError T' hC hN hni (fun h' e hm => ?_) (Nat.zero_le _)
  exact mk_of I hm (raises_own T.b T.t) h (I.hok.gone hm.new)
def sRaise0 (x : Str) : SF := fun Γ S => .ex x [] Γ S
theorem St.raise0 {x : Str} {C : Addr} {p pos pos2 : Pos} (hc : X.calm = true) (tk : Takes X W) (T : ExcC X.K X.mg x C) (hg : Gl X x) (hdb : (x == ("__debug__" : Str)) = false := by decide) :
    St X W (.Raise (some (.Call (.Name x p) [] [] pos)) none pos2) (sRaise0 x) :=
  ps_imp (ps_raise hc tk (pmk_own0 T hg hdb)) fun D σ H ⟨g, Γ, S, rel, rg, ok⟩ => ok g H σ (.ref C) none (Ext.refl rel) rg ⟨T.g, Or.inl ⟨rfl, rfl⟩⟩
/-- what __init__ leaves: its arguments as fields -/
def spIni1 (C : Addr) (f : Str) : Sp := fun vs H Q _ => ∃ a w, vs = [.ref a, w] ∧ H a = some (exo a C none) ∧ ∀ d, H d = none → d ≠ a → Q .non (upd (upd H d (exd d [(f, w)])) a (exo a C (some d)))
/-- an exception class whose __init__ keeps its argument in field f -/
structure ExcI (P : Program) (w : World) (K : PySem.W.Frag) (mg : Str → Option Value) (base : Heap) (x f : Str) (C : Addr) : Prop where
  g : mg x = some (.ref C)
  o : OexC K C
  i : ∃ fI fd ps, PySem.W.findIn K (.ref C) "__init__" = some (some (.ref fI)) ∧ PySem.W.typeIn K (.ref fI) = some (.type "function") ∧ FnOk P w K mg base CX0 1 fI fd ps (spIni1 C f) ∧ Binds K fd ps []
theorem Ext.laid {Y : Kx} {H : Hp} {g : G} {S : Sto} {d : Addr} {o : HO} (rel : Rel Y H g S) (hd : H d = none) : Ext Y H g S (upd H d o) g S := by
  have ne : ∀ {a u}, H a = some u → a ≠ d := fun h z => by rw [z, hd] at h; cases h
  have fr : ∀ a u, H a = some u → upd H d o a = some u := fun a u h => by rw [upd_ne (ne h)]; exact h
  have up : Up H g S.length (upd H d o) g S.length := ⟨fun a u h _ => fr a u h, fun _ h => h, fun _ h => h, fun _ _ => rfl, Nat.le_refl _⟩
  refine ⟨⟨fun n k xs e => ?_, rel.inj, rel.fF, rel.fT, fun a h => ?_⟩, fun a u h _ => fr a u h, fun n h => Or.inl ⟨h, rfl⟩, fun _ _ => rfl, Nat.le_refl _, fun _ h => h, rfl, fun a u h => ⟨u, fr a u h⟩, fun _ h => Or.inl h⟩
  · obtain ⟨u, vs, h1, h2, h3, h4⟩ := rel.ob n k xs e
    exact ⟨u, vs, fr _ _ h1, h2, h3, RVs.mono up _ _ h4⟩
  · obtain ⟨u, h1⟩ := rel.tr a h
    exact ⟨u, fr _ _ h1⟩
def sRaise1 (x f : Str) (tr : AF) : SF := fun Γ S => (tr Γ S).st Γ fun vs S1 => match vs with
  | [v] => .ex x [(f, v)] Γ S1
  | _ => .bad
theorem St.raise1 {x f : Str} {C : Addr} {k : Nat} {e : Expr} {tr : AF} {p pos pos2 : Pos} (hc : X.calm = true) (tk : Takes X W) (T : ExcI X.prog X.w X.K X.mg X.base x f C) (hr : Room k X.A) (hk : 2 ≤ k) (hg : Gl X x) (ha : A X W [e] tr) (hdb : (x == ("__debug__" : Str)) = false := by decide)
    (hs : starEach (e :: []) X.env = (false, eval e X.env) :: starEach [] X.env := by rfl) (hpl : (backTo pos (starEach [] X.env)).any (·.1) = false := by rfl) :
    St X W (.Raise (some (.Call (.Name x p) [e] [] pos)) none pos2) (sRaise1 x f tr) := by
  obtain ⟨fI, fd, ps, i1, i2, F1, hb⟩ := T.i
  refine ps_imp (ps_raise hc tk (pmk_oex T.o i1 i2 F1 (hr.mono hk) hb (.nil) pass0 hg T.g ha hdb hs hpl)) fun D σ H q => ?_
  obtain ⟨g, Γ, S, rel, rg, ok⟩ := q
  refine ⟨g, Γ, S, rel, rg, OKw.mono (OKs.st rel rg ok) fun vs S1 g1 H1 _ e1 h1 xs rx => ?_⟩
  split at h1
  · rename_i v
    simp only [RVs] at rx
    obtain ⟨x1, _, rfl, h2, rfl⟩ := rx
    refine ⟨by simp, fun a ha => ⟨a, x1, rfl, upd_same, fun d hd hda => ⟨rfl, d, [(f, x1)], upd_same, ?_, ?_, ?_⟩⟩⟩
    · rw [upd_ne hda, upd_same]
    · rw [upd_ne hda] at hd; exact hd
    · have hd1 : H1 d = none := by rw [upd_ne hda] at hd; exact hd
      have eH : upd (del (upd (upd (upd H1 a (exo a C none)) d (exd d [(f, x1)])) a (exo a C (some d))) a) d (.xd [(f, x1)]) = upd H1 d (.xd [(f, x1)]) := by
        funext b
        by_cases hb : b = d
        · subst hb; rw [upd_same, upd_same]
        · rw [upd_ne hb, upd_ne hb]
          by_cases hba : b = a
          · subst hba; rw [del_same, ha]
          · rw [del_ne hba, upd_ne hba, upd_ne hb, upd_ne hba]
      rw [eH]
      have e2 : Ext X H1 g1 S1 (upd H1 d (.xd [(f, x1)])) g1 S1 := Ext.laid e1.rel hd1
      refine h1 g1 _ σ (.ref C) (some d) e2 ((rg.up rel e1).up e1.rel e2) ⟨T.g, Or.inr ⟨d, [x1], rfl, upd_same, ?_⟩⟩
      simp only [List.map_cons, List.map_nil, RVs]
      exact ⟨x1, [], rfl, RV.up e1.rel e2 _ _ h2, rfl⟩
  · exact h1.elim
/-- the def __init__ that keeps its argument -/
theorem ini1_ok {P : Program} {w : World} {base : Heap} {qual : Str} {st : Stmt} {dvs : List V} {kws : List (Str × V)} {fI : Addr} {fd : FuncData} {f : Str} {C : Addr} {p1 p2 p3 p4 p5 p6 : Pos}
    (F : FunD K "__init__" qual (defArgs st) (defBody st) (defScope st) dvs kws fI fd) (S : FnScope ["self", f] ["self", f] (defScope st)) (hb : defBody st = [.Assign [.Attribute (.Name "self" p1) f p2] (.Name f p3) p4])
    (l1 : slC ["self", f] (defScope st) 0 "self" = true) (l2 : slC ["self", f] (defScope st) 1 f = true) (o : OexC K C) (no : PySem.W.findIn K (.ref C) f = some none) : FnOk P w K mg base CX0 1 fI fd ["self", f] (spIni1 C f) := by
  refine F.ok S (fun vs H Q E ⟨a, x, e, _⟩ => by rw [e]; rfl) (fun cdv A outer s H vs Q E hr ⟨a, x, e, h1, h2⟩ => ?_)
  subst e
  refine ⟨tOst K f (tVar 0) (tVar 1), ?_, ?_⟩
  · rw [hb]
    obtain ⟨a1, a2, a3, a4⟩ := slC_ok l1
    obtain ⟨b1, b2, b3, b4⟩ := slC_ok l2
    exact pss_one (ps_ost (pe_var (i := 0) a1 a2 a3 a4) (pe_var (i := 1) b1 b2 b3 b4))
  · exact ⟨_, rfl, _, rfl, a, C, rfl, o, no, Or.inl ⟨h1, fun dx k1 k2 => h2 dx k1 k2⟩⟩
/-! try -/
/-- nothing may be raised -/
abbrev WN : WX := fun _ _ _ _ => False
def sPick : List (List (Str × Bool) × SF) → Str → Option (Option SF)
  | [], _ => some none
  | (t, u) :: r, c => match t.lookup c with
    | none => none
    | some true => some (some u)
    | some false => sPick r c
def sTry (t : SF) (l : List (List (Str × Bool) × SF)) : SF := fun Γ S => match t Γ S with
  | .ex c fs Γ1 S1 => match sPick l c with
    | none => .bad
    | some none => .ex c fs Γ1 S1
    | some (some u) => match u Γ1 S1 with
      | .ex _ _ _ _ => .bad
      | r => r
  | r => r
/-- the clauses: the classes that each one knows -/
inductive Hds (X : Cx) : List ExceptHandler → List (List (Str × Bool) × SF) → Prop
  | nil : Hds X [] []
  | cons {x : Str} {C : Addr} {tbl : List (Str × Bool)} {t : SF} {b₀ : Stmt} {suite : List Stmt} {np pos' : Pos} {hds : List ExceptHandler} {l : List (List (Str × Bool) × SF)} (hg : Gl X x) (hdb : (x == ("__debug__" : Str)) = false) (hm : X.mg x = some (.ref C))
      (ht : ∀ c b cls, tbl.lookup c = some b → X.mg c = some cls → PySem.W.exmOne X.K cls (.ref C) = some b)
      (hs : ∀ a oe pn, Ss (X.suite a ((a, oe) :: pn)) WN (b₀ :: suite) t) (r : Hds X hds l) :
      Hds X (.ExceptHandler (some (.Name x np)) none (b₀ :: suite) pos' :: hds) ((tbl, t) :: l)
theorem Hds.ok {hds : List ExceptHandler} {l : List (List (Str × Bool) × SF)} (h : Hds X hds l) : ∃ l', HdsOk X hds l' ∧ ∀ (c : Str) (fs : List (Str × PV)) (Γ : Gam) (S : Sto) (D : Ends) (H : Hp) (g : G) (σ : L2.St) (cls : Value) (d : Option Addr),
    Rel X H g S → RG X H g S.length Γ σ → RX X H g S.length c fs cls d → (match sPick l c with
      | none => False
      | some none => W cls d σ H
      | some (some u) => OKs X WN D H g S (u Γ S)) → wMany X.K W D l' cls d σ H := by
  induction h with
  | nil => exact ⟨[], .nil, fun c fs Γ S D H g σ cls d rel rg rx k => k⟩
  | cons hg hdb hm ht hs r ih =>
    rename_i x C tbl t b₀ suite np pos' hds l
    obtain ⟨l', h1, h2⟩ := ih
    refine ⟨(.ref C, fun a cls d => liftS X WN t) :: l', .cons ⟨hg, hdb, Or.inl hm⟩ (fun a oe cls d pn _ _ => hs a oe pn) h1, fun c fs Γ S D H g σ cls d rel rg rx k => ?_⟩
    unfold sPick at k
    cases e : tbl.lookup c with
    | none => rw [e] at k; exact k.elim
    | some b =>
      rw [e] at k
      refine ⟨b, ht c b cls e rx.1, fun hb a ha => ?_, fun hb => ?_⟩
      · subst hb; exact ⟨g, Γ, S, rel, rg, k⟩
      · subst hb; exact h2 c fs Γ S D H g σ cls d rel rg rx k
theorem Body.tr {N : List Str} {sc : Scope} {k : Nat} (b : Body X W N sc k) {W' : WX} {pn : List (Addr × Obj)} {xe : Value → Shared → Prop} (tk : Takes (X.tr pn xe) W') (po : PassesOwn (model X.prog X.w) X.A X.env xe) : Body (X.tr pn xe) W' N sc k :=
  ⟨b.hN, b.sc, b.calm, b.fn, b.room, tk, po, b.hs, b.hf⟩
end Pv
namespace Pv
open PySem PySem.Spec PyProof.Rows L2
/-! what the head says of exception classes -/
def excB (K : PySem.W.Frag) (x : Str) : Bool := He.Fa.ok K (.exc x) && He.Fa.ok K (.glo x)
theorem excB_ok {K : PySem.W.Frag} {h : Heap} {mg : Str → Option Value} {x : Str} (Y : K.In h) (G : h.Ns mainGlobals mg) (c : excB K x = true) : ExcC K mg x (He.ga K x) := by
  obtain ⟨c1, c2⟩ := He.ba c
  obtain ⟨e1, e2, e3, e4⟩ := He.exc_ok c1
  exact ⟨He.glo_ok Y G c2, e1, e2, e3, e4⟩
/-- an error class with its own __init__ over one field f, which the class itself doesn't name -/
def oexO (C : Addr) (o : Option Obj) : Bool := match o with
  | some ⟨.type "type", _, .cls cd, sl⟩ => (match cd.mro, sl.toList with
    | .ref C' :: bm, [_, _, _, _, some (.builtin n), _] => decide (C' = C) && (decide (n = "ValueError.__new__") && (cd.hasDict && (!cd.hasDel && PySem.HandSPX.refsVE bm)))
    | _, _ => false)
  | _ => false
def oexB (K : PySem.W.Frag) (x f : Str) : Bool := oexO (He.ga K x) (K.lookup (He.ga K x)) && (He.Fa.ok K (.glo x) && (He.Fa.ok K (.noat x f) && (He.Fa.ok K (.meth x "__init__") && (PySem.W.keepIn K (.ref (He.ga K x)) &&
  (decide (PySem.W.findIn K (.ref (He.ga K x)) "__setattr__" = some (some (.builtin "object.__setattr__"))) && (decide (PySem.W.subIn K (.ref (He.ga K x)) (.type "BaseException") = some true) && (decide (PySem.W.typeIn K (.ref (He.ga K x)) = some (.type "type")) && decide (PySem.W.typeIn K (.ref (He.ma K (He.ga K x) "__init__")) = some (.type "function")))))))))
structure OexF (K : PySem.W.Frag) (mg : Str → Option Value) (x f : Str) : Prop where
  g : mg x = some (.ref (He.ga K x))
  o : OexC K (He.ga K x)
  no : PySem.W.findIn K (.ref (He.ga K x)) f = some none
  i : PySem.W.findIn K (.ref (He.ga K x)) "__init__" = some (some (.ref (He.ma K (He.ga K x) "__init__")))
  t : PySem.W.typeIn K (.ref (He.ma K (He.ga K x) "__init__")) = some (.type "function")
theorem oexB_ok {K : PySem.W.Frag} {h : Heap} {mg : Str → Option Value} {x f : Str} (Y : K.In h) (G : h.Ns mainGlobals mg) (c : oexB K x f = true) : OexF K mg x f := by
  obtain ⟨c1, c⟩ := He.ba c
  obtain ⟨c2, c⟩ := He.ba c
  obtain ⟨c3, c⟩ := He.ba c
  obtain ⟨c4, c⟩ := He.ba c
  obtain ⟨c5, c⟩ := He.ba c
  obtain ⟨c6, c⟩ := He.ba c
  obtain ⟨c7, c⟩ := He.ba c
  obtain ⟨c8, c9⟩ := He.ba c
  refine ⟨He.glo_ok Y G c2, ⟨?_, of_decide_eq_true c6, of_decide_eq_true c7, of_decide_eq_true c8, c5⟩, He.noat_ok c3, (He.meth_ok c4).1, of_decide_eq_true c9⟩
  unfold oexO at c1
  split at c1
  · rename_i dd cd sl ho
    split at c1
    · rename_i C' bm k0 k1 k2 k3 n k5 hm hs
      simp only [Bool.and_eq_true, decide_eq_true_eq, Bool.not_eq_true'] at c1
      obtain ⟨hc, hn, hd', hdel, ht⟩ := c1
      subst hc hn
      obtain ⟨nm, bs, mro, ns, qn, hd, sn, sub, ab, col, del⟩ := cd
      dsimp only at hm hdel hd'
      subst hm hdel hd'
      have hsl : sl = #[k0, k1, k2, k3, some (.builtin "ValueError.__new__"), k5] := by
        obtain ⟨l⟩ := sl
        simp only at hs
        rw [hs]
      subst hsl
      exact ⟨nm, qn, ns, bs, bm, sn, sub, ab, col, dd, k0, k1, k2, k3, k5, ho, ht⟩
    · cases c1
  · cases c1
/-- the whole of it, with the def __init__ -/
theorem OexF.ok {P : Program} {w : World} {K : PySem.W.Frag} {mg : Str → Option Value} {base : Heap} {x f qual : Str} (T : OexF K mg x f) {st : Stmt} {dvs : List V} {kws : List (Str × V)} {fd : FuncData} {p1 p2 p3 p4 : Pos}
    (F : FunD K "__init__" qual (defArgs st) (defBody st) (defScope st) dvs kws (He.ma K (He.ga K x) "__init__") fd) (bn : Binds K fd ["self", f] []) (S : FnScope ["self", f] ["self", f] (defScope st)) (hb : defBody st = [.Assign [.Attribute (.Name "self" p1) f p2] (.Name f p3) p4])
    (l1 : slC ["self", f] (defScope st) 0 "self" = true) (l2 : slC ["self", f] (defScope st) 1 f = true) : ExcI P w K mg base x f (He.ga K x) :=
  ⟨T.g, T.o, _, fd, ["self", f], T.i, T.t, ini1_ok (p1 := p1) (p2 := p2) (p3 := p3) (p4 := p4) (p5 := p1) (p6 := p1) F S hb l1 l2 T.o T.no, bn⟩
end Pv
namespace Pv
open PySem
/-- the j-th row of a class -/
def clsS (s : Stmt) (j : Nat) : Stmt := match s with
  | .ClassDef (body := b) .. => b.getD j (.Pass ⟨0, 0, 0, 0⟩)
  | _ => .Pass ⟨0, 0, 0, 0⟩
end Pv
namespace Pv
open PySem PySem.Spec PyProof.Rows L2
/-! Taking a list apart; slices; o[i] op= e. -/
variable {X : Cx} {W : WX} {K : PySem.W.Frag} {mg : Str → Option Value}
/-- a, b, .. = a tuple or a list -/
def gU (is : List Nat) : GF := fun p Γ S => match deref S p with
  | some (.tup, xs) => gNs is xs Γ S
  | some (.lst, xs) => gNs is xs Γ S
  | _ => .bad
theorem Tg.un {es : List Expr} {pos : Pos} {is : List Nat} {k n : Nat} (hc : X.calm = true) (h : PGs X es (liftGs X W (gNs is))) (hi : is.length = n := by rfl) (hn : (assignEach es X.env).length = n := by rfl) (hst : (assignEach es X.env).findIdx? (·.1) = none := by rfl) :
    Tg X W (.Tuple es k pos) (gU is) := by
  refine ⟨fun pins s σ H v u Q I r hw => ?_⟩
  obtain ⟨g, Γ, S, p, rel, rg, rv, ok⟩ := hw
  unfold gU at ok
  have hlen : ∀ {xs : List PV}, OKw X W σ H g S (gNs is xs Γ S) (fun Γ' S' g' H' => ∀ σ', RG X H' g' S'.length Γ' σ' → Q σ' H') → xs.length = is.length := fun {xs} ok => by
    rcases gNs_ok is xs Γ S with ⟨Γ', q⟩ | q
    · exact gNs_len ⟨Γ', S, q⟩
    · rw [q] at ok; exact ok.elim
  split at ok
  · rename_i xs e
    obtain ⟨a, vs, rfl, h2, h3⟩ := deref_ok rel rv e
    exact (pg_tup hc h hn hst).run pins s σ H _ u Q I r ⟨a, vs, rfl, h3.tup, by rw [← h2.len, hlen ok, hi], g, Γ, S, xs, rel, rg, h2, ok⟩
  · rename_i xs e
    obtain ⟨a, vs, rfl, h2, h3⟩ := deref_ok rel rv e
    exact (pg_unl hc h hn hst).run pins s σ H _ u Q I r ⟨a, vs, rfl, h3.lst, by rw [← h2.len, hlen ok, hi], g, Γ, S, xs, rel, rg, h2, ok⟩
  · exact ok.elim
/-! slices -/
abbrev OFn := Gam → Sto → R (Option Int)
def oN : OFn := fun _ S => .ok none S
def oS (t : EF) : OFn := fun Γ S => (t Γ S).bind fun p S1 => match p with
  | .int i => .ok (some i) S1
  | _ => .bad
def liftO (X : Cx) (W : WX) (t : OFn) : TO := fun σ H Q => ∃ g Γ S, Rel X H g S ∧ RG X H g S.length Γ σ ∧ OKw X W σ H g S (t Γ S) fun o _ _ H' => Q o H'
def Po (X : Cx) (W : WX) (e : Option Expr) (t : OFn) : Prop := PO X e (liftO X W t)
theorem po_imp {e : Option Expr} {t t' : TO} (h : PO X e t) (k : ∀ σ H Q, t' σ H Q → t σ H Q) : PO X e t' := ⟨fun pins s σ H Q I q => h.run pins s σ H Q I (k σ H Q q)⟩
theorem Po.none : Po X W none oN := po_imp po_none fun σ H Q ⟨g, Γ, S, rel, rg, ok⟩ => OKw.ok rel ok
theorem Po.some {e : Expr} {t : EF} (h : E X W e t) : Po X W (some e) (oS t) := po_imp (po_some h) fun σ H Q ⟨g, Γ, S, rel, rg, ok⟩ => by
  refine ⟨g, Γ, S, rel, rg, OKw.mono (OKw.bind ok) fun p S1 g1 H1 _ e1 h1 x rx => ?_⟩
  split at h1
  · exact ⟨_, rx.int_inv, OKw.ok e1.rel h1⟩
  · exact h1.elim
def cutP (xs : List PV) (lo hi : Option Int) : List PV := (xs.drop (HT.sIx xs.length 0 lo)).take (HT.sIx xs.length xs.length hi - HT.sIx xs.length 0 lo)
theorem RVs.cut {Y : Kx} {H : Hp} {g : G} {L : Nat} {ps : List PV} {vs : List V} {lo hi : Option Int} (h : RVs Y H g L ps vs) : RVs Y H g L (cutP ps lo hi) (cutV vs lo hi) := by
  unfold cutP cutV
  rw [h.len]
  exact (h.drop _).take _
def slF (mu : Bool) (p : PV) (lo hi : Option Int) (S : Sto) : Option (PV × Sto) := match p with
  | .str z => if z.length ≤ sizeLine then some (.str (cutS z lo hi), S) else none
  | p => match deref S p with
    | some (.lst, xs) => some (newP mu .lst (cutP xs lo hi) S)
    | some (.tup, xs) => if HT.sIx xs.length 0 lo = 0 ∧ HT.sIx xs.length xs.length hi = xs.length then some (p, S) else some (.con .own .tup (cutP xs lo hi), S)
    | _ => none
def eSl (mu : Bool) (t : EF) (lo hi : OFn) : EF := fun Γ S => (t Γ S).bind fun p S1 => (lo Γ S1).bind fun l S2 => (hi Γ S2).bind fun u S3 => R.of (slF mu p l u S3)
def rSlAny (K : PySem.W.Frag) (x : V) (lo hi : Option Int) (H : Hp) (Q : VK) : Prop := rSlS x lo hi H Q ∨ rSlL K x lo hi H Q ∨ rSlA K x lo hi H Q
theorem sl_any : SlR X (rSlAny X.K) := SlR.or sl_str (SlR.or sl_list sl_tupA)
theorem E.sl (mu : Bool) {e : Expr} {lo hi : Option Expr} {t : EF} {tl th : OFn} {pos p2 : Pos} (he : E X W e t) (hl : Po X W lo tl) (hh : Po X W hi th) : E X W (.Subscript e (.Slice lo hi none p2) pos) (eSl mu t tl th) :=
  pe_imp (pe_slice sl_any he hl hh) fun σ H Q ⟨g, Γ, S, rel, rg, ok⟩ => by
    refine ⟨g, Γ, S, rel, rg, OKw.mono (OKw.bind ok) fun p S1 g1 H1 _ e1 h1 x rx => ?_⟩
    refine ⟨g1, Γ, S1, e1.rel, rg.up rel e1, OKw.mono (OKw.bind h1) fun l S2 g2 H2 _ e2 h2 => ?_⟩
    refine ⟨g2, Γ, S2, e2.rel, (rg.up rel e1).up e1.rel e2, OKw.mono (OKw.bind h2) fun u S3 g3 H3 _ e3 h3 => ?_⟩
    have rx3 := RV.up e2.rel e3 _ _ (RV.up e1.rel e2 _ _ rx)
    cases hw : slF mu p l u S3 with
    | none => rw [hw] at h3; exact h3.elim
    | some z =>
      obtain ⟨w, S4⟩ := z
      rw [hw] at h3
      unfold slF at hw
      split at hw
      · split at hw
        · rename_i hz
          cases hw
          exact Or.inl ⟨_, rx3.str_inv, hz, h3 g3 H3 (Ext.refl e3.rel) _ RV.str⟩
        · cases hw
      · split at hw
        · rename_i xs e
          obtain ⟨a, vs, rfl, k2, k3⟩ := deref_ok e3.rel rx3 e
          refine Or.inr (Or.inl ⟨a, vs, rfl, k3.lst, fun q hq => ?_⟩)
          obtain ⟨g4, n1, n2⟩ := new_ok (m := mu) (k := .lst) e3.rel hq (show HOof X.mg .lst _ _ from rfl) (by decide) (RVs.cut (lo := l) (hi := u) k2)
          simp only [Option.some.injEq] at hw
          rw [hw] at n1 n2
          exact h3 g4 _ n1 _ n2
        · rename_i xs e
          obtain ⟨a, vs, rfl, k2, k3⟩ := deref_ok e3.rel rx3 e
          refine Or.inr (Or.inr ⟨a, vs, rfl, k3.tup, ?_⟩)
          rw [← k2.len]
          split at hw
          · rename_i c
            cases hw
            exact ⟨fun _ => h3 g3 H3 (Ext.refl e3.rel) _ rx3, fun n => absurd c n⟩
          · rename_i c
            cases hw
            refine ⟨fun n => absurd n c, fun _ q hq => ?_⟩
            obtain ⟨n1, n2⟩ := newF_ok (k := .tup) e3.rel hq (show HOof X.mg .tup _ _ from rfl) (RVs.cut (lo := l) (hi := u) k2)
            exact h3 _ _ n1 _ n2
        · cases hw
/-! o[i] op= e -/
end Pv
namespace Pv
open PySem PySem.Spec PyProof.Rows L2
/-! More rules of evaluation; loops by what holds. -/
section
variable {Γ Γ' : Gam} {S S' : Sto} {p q : PV} {ps qs : List PV} {f : OF} {a b : EF} {tr : AF} {t u : SF} {c : BF} {k : Bool} {n i : Nat}
@[simp] theorem gU_tup {is : List Nat} {m : Md} : gU is (.con m .tup ps) Γ S = gNs is ps Γ S := (rfl)
@[simp] theorem gU_lst {is : List Nat} {m : Md} : gU is (.con m .lst ps) Γ S = gNs is ps Γ S := (rfl)
@[simp] theorem sTurn_U {is : List Nat} : sTurn (gU is) t p Γ S = (match gU is p Γ S with | .ok Γ1 S1 => t Γ1 S1 | .ex c fs S1 => .ex c fs Γ S1 | .bad => .bad) := by
  unfold sTurn; cases gU is p Γ S <;> rfl
def slK (mu : Bool) (lo hi : OFn) (Γ : Gam) (r : R PV) : R PV := r.bind fun p S1 => (lo Γ S1).bind fun l S2 => (hi Γ S2).bind fun u S3 => R.of (slF mu p l u S3)
@[simp] theorem eSl_eq {mu : Bool} {lo hi : OFn} : eSl mu a lo hi Γ S = slK mu lo hi Γ (a Γ S) := (rfl)
def slK2 (mu : Bool) (p : PV) (hi : OFn) (Γ : Gam) (r : R (Option Int)) : R PV := r.bind fun l S2 => (hi Γ S2).bind fun u S3 => R.of (slF mu p l u S3)
def slK3 (mu : Bool) (p : PV) (l : Option Int) (r : R (Option Int)) : R PV := r.bind fun u S3 => R.of (slF mu p l u S3)
@[simp] theorem slK_ok {mu : Bool} {lo hi : OFn} : slK mu lo hi Γ (.ok p S) = slK2 mu p hi Γ (lo Γ S) := (rfl)
@[simp] theorem slK2_ok {mu : Bool} {hi : OFn} {l : Option Int} : slK2 mu p hi Γ (.ok l S) = slK3 mu p l (hi Γ S) := (rfl)
@[simp] theorem slK3_ok {mu : Bool} {l h : Option Int} : slK3 mu p l (.ok h S) = R.of (slF mu p l h S) := (rfl)
@[simp] theorem oN_eq : oN Γ S = .ok none S := (rfl)
def oK (r : R PV) : R (Option Int) := r.bind fun p S1 => match p with
  | .int i => .ok (some i) S1
  | _ => .bad
@[simp] theorem oS_eq : oS a Γ S = oK (a Γ S) := (rfl)
@[simp] theorem oK_ok {j : Int} : oK (.ok (.int j) S) = .ok (some j) S := (rfl)
@[simp] theorem slF_lst {mu : Bool} {m : Md} {l h : Option Int} : slF mu (.con m .lst ps) l h S = some (newP mu .lst (cutP ps l h) S) := (rfl)
def augG (i : Nat) (f : OF) (a : EF) (Γ : Gam) (S : Sto) : Option (Option PV) → RS
  | some (some p) => augK i f p Γ (a Γ S)
  | _ => .bad
@[simp] theorem sAug_g : sAug i f a Γ S = augG i f a Γ S Γ[i]? := by
  unfold sAug augG
  rcases Γ[i]? with _ | _ | p <;> rfl
@[simp] theorem augG_some : augG i f a Γ S (some (some p)) = augK i f p Γ (a Γ S) := (rfl)
@[simp] theorem sRaise0_eq {x : Str} : sRaise0 x Γ S = .ex x [] Γ S := (rfl)
def rsK (x f : Str) (Γ : Gam) (r : R (List PV)) : RS := r.st Γ fun vs S1 => match vs with
  | [v] => .ex x [(f, v)] Γ S1
  | _ => .bad
@[simp] theorem sRaise1_eq {x f : Str} : sRaise1 x f tr Γ S = rsK x f Γ (tr Γ S) := (rfl)
@[simp] theorem rsK_ok {x f : Str} : rsK x f Γ (.ok [p] S) = .ex x [(f, p)] Γ S := (rfl)
def tryK (l : List (List (Str × Bool) × SF)) : RS → RS
  | .ex c fs Γ1 S1 => match sPick l c with
    | none => .bad
    | some none => .ex c fs Γ1 S1
    | some (some u) => match u Γ1 S1 with
      | .ex _ _ _ _ => .bad
      | r => r
  | r => r
@[simp] theorem sTry_eq {l : List (List (Str × Bool) × SF)} : sTry t l Γ S = tryK l (t Γ S) := by unfold sTry tryK; cases t Γ S <;> rfl
@[simp] theorem tryK_nx {l : List (List (Str × Bool) × SF)} : tryK l (.nx Γ S) = .nx Γ S := (rfl)
@[simp] theorem tryK_rt {l : List (List (Str × Bool) × SF)} : tryK l (.rt p S) = .rt p S := (rfl)
@[simp] theorem divmodF_int {x y : Int} : divmodF [.int x, .int y] S = if CDiv x y then some (.con .own .tup [.int (x / y), .int (x % y)], S) else none := (rfl)
@[simp] theorem tupleF_lst {m : Md} : tupleF [.con m .lst ps] S = some (.con .own .tup ps, S) := (rfl)
@[simp] theorem tupleF_tup {m : Md} : tupleF [.con m .tup ps] S = some (.con m .tup ps, S) := (rfl)
@[simp] theorem truB_lst {m : Md} : truB S (.con m .lst ps) = some (!ps.isEmpty) := (rfl)
@[simp] theorem truB_tup {m : Md} : truB S (.con m .tup ps) = some (!ps.isEmpty) := (rfl)
def truD : Option (Kd × List PV) → Option Bool
  | some (.lst, xs) => some (!xs.isEmpty)
  | some (.tup, xs) => some (!xs.isEmpty)
  | _ => none
@[simp] theorem truB_refD : truB S (.ref n) = truD S[n]?.join := by
  unfold truB truD; simp only [deref_ref] <;>
  rcases S[n]?.join with _ | ⟨k', xs'⟩ <;> first | rfl | (cases k' <;> rfl)
@[simp] theorem truD_lst : truD (some (.lst, ps)) = some (!ps.isEmpty) := (rfl)
end
theorem frz_clean {n : Nat} {S : Sto} {p : PV} (h : clean p = true) : frzV (n + 1) S p = some p := by unfold frzV; rw [if_pos h]
theorem frz_cleans {n : Nat} {S : Sto} : ∀ {xs : List PV}, cleans xs = true → xs.mapM (frzV (n + 1) S) = some xs
  | [], _ => rfl
  | x :: xs, h => by
    simp only [cleans, Bool.and_eq_true] at h
    rw [List.mapM_cons, frz_clean h.1, frz_cleans h.2]; rfl
/-- a changing object handed out -/
theorem resP_ref {S : Sto} {n : Nat} {k : Kd} {xs : List PV} (h : S[n]? = some (some (k, xs))) (c : cleans xs = true) : resP S (.ref n) = .ok (.con .own k xs) := by
  unfold resP frzV
  simp [clean, h, frz_cleans (n := 7) c]
end Pv
namespace Pv
open PySem PySem.Spec PyProof.Rows L2
/-! Loops by index, by items. -/
/-- how a turn may end, by what is asked -/
def Trn (r : RS) (N : Gam → Sto → Prop) (R : RS → Prop) : Prop := match r with
  | .nx Γ S => N Γ S
  | .ct Γ S => N Γ S
  | .bk Γ S => R (.nx Γ S)
  | .rt v S => R (.rt v S)
  | .ex c fs Γ S => R (.ex c fs Γ S)
  | .bad => False
theorem Trn.mono {r : RS} {N N' : Gam → Sto → Prop} {R : RS → Prop} (h : Trn r N R) (k : ∀ Γ S, N Γ S → N' Γ S) : Trn r N' R := by
  cases r <;> first | exact k _ _ h | exact h
@[simp] theorem Trn_nx {Γ : Gam} {S : Sto} {N : Gam → Sto → Prop} {R : RS → Prop} : Trn (.nx Γ S) N R = N Γ S := (rfl)
@[simp] theorem Trn_ct {Γ : Gam} {S : Sto} {N : Gam → Sto → Prop} {R : RS → Prop} : Trn (.ct Γ S) N R = N Γ S := (rfl)
@[simp] theorem Trn_bk {Γ : Gam} {S : Sto} {N : Gam → Sto → Prop} {R : RS → Prop} : Trn (.bk Γ S) N R = R (.nx Γ S) := (rfl)
@[simp] theorem Trn_rt {v : PV} {S : Sto} {N : Gam → Sto → Prop} {R : RS → Prop} : Trn (.rt v S) N R = R (.rt v S) := (rfl)
@[simp] theorem Trn_ex {c : Str} {fs : List (Str × PV)} {Γ : Gam} {S : Sto} {N : Gam → Sto → Prop} {R : RS → Prop} : Trn (.ex c fs Γ S) N R = R (.ex c fs Γ S) := (rfl)
theorem forL_trn {body : PV → SF} {p : PV} {ps : List PV} {Γ : Gam} {S : Sto} {R : RS → Prop} (h : Trn (body p Γ S) (fun Γ S => R (forL body ps Γ S)) R) : R (forL body (p :: ps) Γ S) := by
  rw [forL_cons]
  cases e : body p Γ S <;> rw [e] at h <;> simp only [Trn, forK2] at h ⊢ <;> first | exact h | exact h.elim
/-- a walk over xs.map g: P of what is done, what is left -/
theorem forM_ind {α : Type} {body : PV → SF} (g : α → PV) (P : List α → List α → Gam → Sto → Prop) (R : RS → Prop) (step : ∀ d a r Γ S, P d (a :: r) Γ S → Trn (body (g a) Γ S) (P (d ++ [a]) r) R) (h0 : ∀ d Γ S, P d [] Γ S → R (.nx Γ S)) :
    ∀ (r d : List α) (Γ : Gam) (S : Sto), P d r Γ S → R (forL body (r.map g) Γ S)
  | [], d, Γ, S, h => h0 d Γ S h
  | a :: r, d, Γ, S, h => by
    rw [List.map_cons]
    exact forL_trn ((step d a r Γ S h).mono fun Γ' S' h' => forM_ind g P R step h0 r (d ++ [a]) Γ' S' h')
/-- a while: P m before the turn, with m to go -/
theorem whl_ind {c : BF} {t : SF} (P : Nat → Gam → Sto → Prop) (R : RS → Prop)
    (step : ∀ m Γ S, P m Γ S → (∃ S1, c Γ S = .ok false S1 ∧ R (.nx Γ S1)) ∨ (∃ S1, c Γ S = .ok true S1 ∧ Trn (t Γ S1) (fun Γ' S' => ∃ m', m' < m ∧ P m' Γ' S') R)) :
    ∀ (n m : Nat) (Γ : Gam) (S : Sto), P m Γ S → m < n → R (whlN c t n Γ S)
  | 0, m, Γ, S, _, h => absurd h (Nat.not_lt_zero _)
  | n + 1, m, Γ, S, p, h => by
    unfold whlN
    rcases step m Γ S p with ⟨S1, e, r⟩ | ⟨S1, e, h2⟩
    · rw [e]; simpa using r
    · rw [e]
      simp only [rst_ok, if_true]
      cases e2 : t Γ S1 <;> rw [e2] at h2 <;> simp only [Trn] at h2
      · obtain ⟨m', l, p'⟩ := h2; exact whl_ind P R step n m' _ _ p' (by omega)
      · exact h2
      · exact h2
      · obtain ⟨m', l, p'⟩ := h2; exact whl_ind P R step n m' _ _ p' (by omega)
      · exact h2
theorem sWhl_ind2 {c : BF} {t : SF} (P : Nat → Gam → Sto → Prop) (R : RS → Prop)
    (step : ∀ m Γ S, P m Γ S → (∃ S1, c Γ S = .ok false S1 ∧ R (.nx Γ S1)) ∨ (∃ S1, c Γ S = .ok true S1 ∧ Trn (t Γ S1) (fun Γ' S' => ∃ m', m' < m ∧ P m' Γ' S') R))
    {m : Nat} {Γ : Gam} {S : Sto} (h : P m Γ S) (hm : m < 1000000000000) : R (sWhl c t Γ S) := whl_ind P R step fuel m Γ S h hm
/-! isinstance of built-in types -/
@[simp] theorem isi_non_int {S : Sto}  : isiF [.non, .ty "int"] S = some (.bl false, S) := by
  show (if kitB "NoneType" "int" = some (isiB "NoneType" "int") then some (PV.bl (isiB "NoneType" "int"), S) else none) = _
  rw [if_pos (by decide)]; rfl
@[simp] theorem isi_non_bool {S : Sto}  : isiF [.non, .ty "bool"] S = some (.bl false, S) := by
  show (if kitB "NoneType" "bool" = some (isiB "NoneType" "bool") then some (PV.bl (isiB "NoneType" "bool"), S) else none) = _
  rw [if_pos (by decide)]; rfl
@[simp] theorem isi_non_str {S : Sto}  : isiF [.non, .ty "str"] S = some (.bl false, S) := by
  show (if kitB "NoneType" "str" = some (isiB "NoneType" "str") then some (PV.bl (isiB "NoneType" "str"), S) else none) = _
  rw [if_pos (by decide)]; rfl
@[simp] theorem isi_non_tuple {S : Sto}  : isiF [.non, .ty "tuple"] S = some (.bl false, S) := by
  show (if kitB "NoneType" "tuple" = some (isiB "NoneType" "tuple") then some (PV.bl (isiB "NoneType" "tuple"), S) else none) = _
  rw [if_pos (by decide)]; rfl
@[simp] theorem isi_non_list {S : Sto}  : isiF [.non, .ty "list"] S = some (.bl false, S) := by
  show (if kitB "NoneType" "list" = some (isiB "NoneType" "list") then some (PV.bl (isiB "NoneType" "list"), S) else none) = _
  rw [if_pos (by decide)]; rfl
@[simp] theorem isi_bl_int {S : Sto} {k : Bool} : isiF [.bl k, .ty "int"] S = some (.bl true, S) := by
  show (if kitB "bool" "int" = some (isiB "bool" "int") then some (PV.bl (isiB "bool" "int"), S) else none) = _
  rw [if_pos (by decide)]; rfl
@[simp] theorem isi_bl_bool {S : Sto} {k : Bool} : isiF [.bl k, .ty "bool"] S = some (.bl true, S) := by
  show (if kitB "bool" "bool" = some (isiB "bool" "bool") then some (PV.bl (isiB "bool" "bool"), S) else none) = _
  rw [if_pos (by decide)]; rfl
@[simp] theorem isi_bl_str {S : Sto} {k : Bool} : isiF [.bl k, .ty "str"] S = some (.bl false, S) := by
  show (if kitB "bool" "str" = some (isiB "bool" "str") then some (PV.bl (isiB "bool" "str"), S) else none) = _
  rw [if_pos (by decide)]; rfl
@[simp] theorem isi_bl_tuple {S : Sto} {k : Bool} : isiF [.bl k, .ty "tuple"] S = some (.bl false, S) := by
  show (if kitB "bool" "tuple" = some (isiB "bool" "tuple") then some (PV.bl (isiB "bool" "tuple"), S) else none) = _
  rw [if_pos (by decide)]; rfl
@[simp] theorem isi_bl_list {S : Sto} {k : Bool} : isiF [.bl k, .ty "list"] S = some (.bl false, S) := by
  show (if kitB "bool" "list" = some (isiB "bool" "list") then some (PV.bl (isiB "bool" "list"), S) else none) = _
  rw [if_pos (by decide)]; rfl
@[simp] theorem isi_int_int {S : Sto} {k : Int} : isiF [.int k, .ty "int"] S = some (.bl true, S) := by
  show (if kitB "int" "int" = some (isiB "int" "int") then some (PV.bl (isiB "int" "int"), S) else none) = _
  rw [if_pos (by decide)]; rfl
@[simp] theorem isi_int_bool {S : Sto} {k : Int} : isiF [.int k, .ty "bool"] S = some (.bl false, S) := by
  show (if kitB "int" "bool" = some (isiB "int" "bool") then some (PV.bl (isiB "int" "bool"), S) else none) = _
  rw [if_pos (by decide)]; rfl
@[simp] theorem isi_int_str {S : Sto} {k : Int} : isiF [.int k, .ty "str"] S = some (.bl false, S) := by
  show (if kitB "int" "str" = some (isiB "int" "str") then some (PV.bl (isiB "int" "str"), S) else none) = _
  rw [if_pos (by decide)]; rfl
@[simp] theorem isi_int_tuple {S : Sto} {k : Int} : isiF [.int k, .ty "tuple"] S = some (.bl false, S) := by
  show (if kitB "int" "tuple" = some (isiB "int" "tuple") then some (PV.bl (isiB "int" "tuple"), S) else none) = _
  rw [if_pos (by decide)]; rfl
@[simp] theorem isi_int_list {S : Sto} {k : Int} : isiF [.int k, .ty "list"] S = some (.bl false, S) := by
  show (if kitB "int" "list" = some (isiB "int" "list") then some (PV.bl (isiB "int" "list"), S) else none) = _
  rw [if_pos (by decide)]; rfl
@[simp] theorem isi_str_int {S : Sto} {k : Str} : isiF [.str k, .ty "int"] S = some (.bl false, S) := by
  show (if kitB "str" "int" = some (isiB "str" "int") then some (PV.bl (isiB "str" "int"), S) else none) = _
  rw [if_pos (by decide)]; rfl
@[simp] theorem isi_str_bool {S : Sto} {k : Str} : isiF [.str k, .ty "bool"] S = some (.bl false, S) := by
  show (if kitB "str" "bool" = some (isiB "str" "bool") then some (PV.bl (isiB "str" "bool"), S) else none) = _
  rw [if_pos (by decide)]; rfl
@[simp] theorem isi_str_str {S : Sto} {k : Str} : isiF [.str k, .ty "str"] S = some (.bl true, S) := by
  show (if kitB "str" "str" = some (isiB "str" "str") then some (PV.bl (isiB "str" "str"), S) else none) = _
  rw [if_pos (by decide)]; rfl
@[simp] theorem isi_str_tuple {S : Sto} {k : Str} : isiF [.str k, .ty "tuple"] S = some (.bl false, S) := by
  show (if kitB "str" "tuple" = some (isiB "str" "tuple") then some (PV.bl (isiB "str" "tuple"), S) else none) = _
  rw [if_pos (by decide)]; rfl
@[simp] theorem isi_str_list {S : Sto} {k : Str} : isiF [.str k, .ty "list"] S = some (.bl false, S) := by
  show (if kitB "str" "list" = some (isiB "str" "list") then some (PV.bl (isiB "str" "list"), S) else none) = _
  rw [if_pos (by decide)]; rfl
@[simp] theorem isi_lst_int {S : Sto} {m : Md} {xs : List PV} : isiF [.con m .lst xs, .ty "int"] S = some (.bl false, S) := by
  show (if kitB "list" "int" = some (isiB "list" "int") then some (PV.bl (isiB "list" "int"), S) else none) = _
  rw [if_pos (by decide)]; rfl
@[simp] theorem isi_lst_bool {S : Sto} {m : Md} {xs : List PV} : isiF [.con m .lst xs, .ty "bool"] S = some (.bl false, S) := by
  show (if kitB "list" "bool" = some (isiB "list" "bool") then some (PV.bl (isiB "list" "bool"), S) else none) = _
  rw [if_pos (by decide)]; rfl
@[simp] theorem isi_lst_str {S : Sto} {m : Md} {xs : List PV} : isiF [.con m .lst xs, .ty "str"] S = some (.bl false, S) := by
  show (if kitB "list" "str" = some (isiB "list" "str") then some (PV.bl (isiB "list" "str"), S) else none) = _
  rw [if_pos (by decide)]; rfl
@[simp] theorem isi_lst_tuple {S : Sto} {m : Md} {xs : List PV} : isiF [.con m .lst xs, .ty "tuple"] S = some (.bl false, S) := by
  show (if kitB "list" "tuple" = some (isiB "list" "tuple") then some (PV.bl (isiB "list" "tuple"), S) else none) = _
  rw [if_pos (by decide)]; rfl
@[simp] theorem isi_lst_list {S : Sto} {m : Md} {xs : List PV} : isiF [.con m .lst xs, .ty "list"] S = some (.bl true, S) := by
  show (if kitB "list" "list" = some (isiB "list" "list") then some (PV.bl (isiB "list" "list"), S) else none) = _
  rw [if_pos (by decide)]; rfl
@[simp] theorem isi_tup_int {S : Sto} {m : Md} {xs : List PV} : isiF [.con m .tup xs, .ty "int"] S = some (.bl false, S) := by
  show (if kitB "tuple" "int" = some (isiB "tuple" "int") then some (PV.bl (isiB "tuple" "int"), S) else none) = _
  rw [if_pos (by decide)]; rfl
@[simp] theorem isi_tup_bool {S : Sto} {m : Md} {xs : List PV} : isiF [.con m .tup xs, .ty "bool"] S = some (.bl false, S) := by
  show (if kitB "tuple" "bool" = some (isiB "tuple" "bool") then some (PV.bl (isiB "tuple" "bool"), S) else none) = _
  rw [if_pos (by decide)]; rfl
@[simp] theorem isi_tup_str {S : Sto} {m : Md} {xs : List PV} : isiF [.con m .tup xs, .ty "str"] S = some (.bl false, S) := by
  show (if kitB "tuple" "str" = some (isiB "tuple" "str") then some (PV.bl (isiB "tuple" "str"), S) else none) = _
  rw [if_pos (by decide)]; rfl
@[simp] theorem isi_tup_tuple {S : Sto} {m : Md} {xs : List PV} : isiF [.con m .tup xs, .ty "tuple"] S = some (.bl true, S) := by
  show (if kitB "tuple" "tuple" = some (isiB "tuple" "tuple") then some (PV.bl (isiB "tuple" "tuple"), S) else none) = _
  rw [if_pos (by decide)]; rfl
@[simp] theorem isi_tup_list {S : Sto} {m : Md} {xs : List PV} : isiF [.con m .tup xs, .ty "list"] S = some (.bl false, S) := by
  show (if kitB "tuple" "list" = some (isiB "tuple" "list") then some (PV.bl (isiB "tuple" "list"), S) else none) = _
  rw [if_pos (by decide)]; rfl
end Pv
namespace Pv
open PySem PySem.Spec PyProof.Rows L2
section
variable {X : Cx} {Γ : Gam} {S : Sto}
/-! name += e: ints, texts -/
def addA : OF := fun p q S => match p, q with
  | .int i, .int j => some (.int (i + j), S)
  | .str a, .str b => if a.length + b.length ≤ sizeLine then some (.str (a ++ b), S) else none
  | _, _ => none
@[simp] theorem addA_int {i j : Int} : addA (.int i) (.int j) S = some (.int (i + j), S) := (rfl)
@[simp] theorem addA_str {a b : Str} : addA (.str a) (.str b) S = if a.length + b.length ≤ sizeLine then some (.str (a ++ b), S) else none := (rfl)
/-! range(i, j) -/
def r2K (r : R (List PV)) : R (Stp × Nat) := r.bind fun ps S1 => match ps with
  | [.int i, .int j] => if -(2 ^ 62) ≤ i ∧ i < 2 ^ 62 ∧ -(2 ^ 62) ≤ j ∧ j < 2 ^ 62 then .ok (stL (intsF i (j - i).toNat), (j - i).toNat + 1) S1 else .bad
  | _ => .bad
@[simp] theorem iR2_eq {tr : AF} : iR2 tr Γ S = r2K (tr Γ S) := (rfl)
def tupD (S : Sto) : Option (Kd × List PV) → Option (PV × Sto)
  | some (.lst, xs) => some (.con .own .tup xs, S)
  | _ => none
@[simp] theorem tupleF_refD {n : Nat} : tupleF [.ref n] S = tupD S S[n]?.join := by
  unfold tupleF tupD; simp only [deref_ref] <;>
  rcases S[n]?.join with _ | ⟨k', xs'⟩ <;> first | rfl | (cases k' <;> rfl)
@[simp] theorem tupD_lst {ps : List PV} : tupD S (some (.lst, ps)) = some (.con .own .tup ps, S) := (rfl)
/-- it raises so -/
def Rx (r : RS) (c : Str) (fs : List (Str × PV)) : Prop := match r with
  | .ex c' fs' _ _ => c' = c ∧ fs' = fs
  | _ => False
@[simp] theorem Rx_ex {c c' : Str} {fs fs' : List (Str × PV)} : Rx (.ex c' fs' Γ S) c fs = (c' = c ∧ fs' = fs) := (rfl)
theorem Rx.out {r : RS} {c : Str} {fs : List (Str × PV)} (h : Rx r c fs) : ∃ Γ S, r = .ex c fs Γ S := by
  cases r <;> simp [Rx] at h
  obtain ⟨rfl, rfl⟩ := h
  exact ⟨_, _, rfl⟩
end
end Pv
/-! Pv18: several except clauses, some with a name. -/
namespace Pv
open PySem PySem.Spec PyProof.Rows L2
/-- a clause: its class, the slot of its name, its suite -/
abbrev Cls3 := Value × Option Nat × (Addr → Value → Option Addr → TS)
def offE (D : Ends) (i : Nat) : Ends := ⟨fun σ H => D.nx (σ.set i none) H, D.rt, fun σ H => D.bk (σ.set i none) H, fun σ H => D.ct (σ.set i none) H⟩
def runC (D : Ends) (o : Option Nat) (ts : TS) (a : Addr) (σ : L2.St) (H : Hp) : Prop := match o with
  | none => ts D σ H
  | some i => ts (offE D i) (σ.set i (some (.ref a))) H
/-- what the clauses ask, in their order -/
def wSeq (K : PySem.W.Frag) (Wo : WX) (D : Ends) : List Cls3 → WX
  | [] => Wo
  | q :: qs => fun cls d σ H => ∃ b, PySem.W.exmOne K cls q.1 = some b ∧
      (b = true → ∀ a, H a = none → runC D q.2.1 (q.2.2 a cls d) a σ H) ∧
      (b = false → wSeq K Wo D qs cls d σ H)
abbrev SuOk (X : Cx) (suite : List Stmt) (ts : Addr → Value → Option Addr → TS) : Prop :=
  ∀ (a : Addr) (oe : Obj) (cls : Value) (d : Option Addr) (pn : List (Addr × Obj)),
    Zc cls d oe → (∃ vs, oe.data = .fields vs) → PSs (X.suite a ((a, oe) :: pn)) suite (ts a cls d)
inductive ClOk (X : Cx) : List ExceptHandler → List Cls3 → Prop
  | nil : ClOk X [] []
  | plain {x : Str} {c : Value} {ts : Addr → Value → Option Addr → TS} {b : Stmt} {bs : List Stmt} {p1 p2 : Pos}
      {hds : List ExceptHandler} {l : List Cls3} (hc : Names X x c) (su : SuOk X (b :: bs) ts) (r : ClOk X hds l) :
      ClOk X (.ExceptHandler (some (.Name x p1)) none (b :: bs) p2 :: hds) ((c, none, ts) :: l)
  | named {x n : Str} {i : Nat} {c : Value} {ts : Addr → Value → Option Addr → TS} {b : Stmt} {bs : List Stmt} {p1 p2 : Pos}
      {hds : List ExceptHandler} {l : List Cls3} (hN : X.N.Nodup) (hi : X.N[i]? = some n) (hl : X.env.kindOf n = some .local)
      (hc : Names X x c) (su : SuOk X (b :: bs) ts) (r : ClOk X hds l) :
      ClOk X (.ExceptHandler (some (.Name x p1)) (some n) (b :: bs) p2 :: hds) ((c, some i, ts) :: l)
end Pv
/-! Pv19: try with several clauses, as functions of data. -/
namespace Pv
open PySem PySem.Spec PyProof.Rows L2
section
variable {X : Cx} {W : WX}
abbrev XF := Str → List (Str × PV) → SF
/-- which clause takes it -/
def xPick : List (List (Str × Bool) × XF) → Str → Option (Option XF)
  | [], _ => some none
  | (t, u) :: r, c => match t.lookup c with
    | none => none
    | some true => some (some u)
    | some false => xPick r c
/-- a suite that does not name the error -/
def xPlain (u : SF) : XF := fun _ _ => u
/-- the name goes -/
def offR (i : Nat) : RS → RS
  | .nx Γ S => .nx (Γ.set i none) S
  | .bk Γ S => .bk (Γ.set i none) S
  | .ct Γ S => .ct (Γ.set i none) S
  | r => r
def xAs (i : Nat) (u : XF) : XF := fun c fs Γ S => if i < Γ.length then offR i (u c fs (Γ.set i none) S) else .bad
/-- a suite whose name i stands for the error a -/
def liftN (X : Cx) (i : Nat) (a : Addr) (cls : Value) (d : Option Addr) (u : XF) : TS := fun D σ H => ∃ g Γ S c fs, Rel X H g S ∧ RG X H g S.length Γ σ ∧ σ[i]? = some (some (.ref a)) ∧ RX X H g S.length c fs cls d ∧ OKs X WN D H g S (u c fs Γ S)
inductive HdX (X : Cx) : List ExceptHandler → List (List (Str × Bool) × XF) → Prop
  | nil : HdX X [] []
  | plain {x : Str} {C : Addr} {tbl : List (Str × Bool)} {t : SF} {b₀ : Stmt} {suite : List Stmt} {np pos' : Pos} {hds : List ExceptHandler} {l : List (List (Str × Bool) × XF)} (hg : Gl X x) (hdb : (x == ("__debug__" : Str)) = false) (hm : X.mg x = some (.ref C))
      (ht : ∀ c b cls, tbl.lookup c = some b → X.mg c = some cls → PySem.W.exmOne X.K cls (.ref C) = some b)
      (hs : ∀ a oe pn, Ss (X.suite a ((a, oe) :: pn)) WN (b₀ :: suite) t) (r : HdX X hds l) :
      HdX X (.ExceptHandler (some (.Name x np)) none (b₀ :: suite) pos' :: hds) ((tbl, xPlain t) :: l)
  | named {x n : Str} {i : Nat} {C : Addr} {tbl : List (Str × Bool)} {u : XF} {b₀ : Stmt} {suite : List Stmt} {np pos' : Pos} {hds : List ExceptHandler} {l : List (List (Str × Bool) × XF)} (hN : X.N.Nodup) (hi : X.N[i]? = some n) (hl : X.env.kindOf n = some .local) (hg : Gl X x) (hdb : (x == ("__debug__" : Str)) = false) (hm : X.mg x = some (.ref C))
      (ht : ∀ c b cls, tbl.lookup c = some b → X.mg c = some cls → PySem.W.exmOne X.K cls (.ref C) = some b)
      (hs : SuOk X (b₀ :: suite) (fun a cls d => liftN X i a cls d u)) (r : HdX X hds l) :
      HdX X (.ExceptHandler (some (.Name x np)) (some n) (b₀ :: suite) pos' :: hds) ((tbl, xAs i u) :: l)
theorem HdX.ok {hds : List ExceptHandler} {l : List (List (Str × Bool) × XF)} (h : HdX X hds l) : ∃ l', ClOk X hds l' ∧ ∀ (c : Str) (fs : List (Str × PV)) (Γ : Gam) (S : Sto) (D : Ends) (H : Hp) (g : G) (σ : L2.St) (cls : Value) (d : Option Addr),
    Rel X H g S → RG X H g S.length Γ σ → RX X H g S.length c fs cls d → (match xPick l c with
      | none => False
      | some none => W cls d σ H
      | some (some u) => OKs X WN D H g S (u c fs Γ S)) → wSeq X.K W D l' cls d σ H := by
  induction h with
  | nil => exact ⟨[], .nil, fun c fs Γ S D H g σ cls d rel rg rx k => k⟩
  | plain hg hdb hm ht hs r ih =>
    rename_i x C tbl t b₀ suite np pos' hds l
    obtain ⟨l', h1, h2⟩ := ih
    refine ⟨(.ref C, none, fun a cls d => liftS X WN t) :: l', .plain ⟨hg, hdb, Or.inl hm⟩ (fun a oe cls d pn _ _ => hs a oe pn) h1, fun c fs Γ S D H g σ cls d rel rg rx k => ?_⟩
    unfold xPick at k
    cases e : tbl.lookup c with
    | none => rw [e] at k; exact k.elim
    | some b =>
      rw [e] at k
      refine ⟨b, ht c b cls e rx.1, fun hb a ha => ?_, fun hb => ?_⟩
      · subst hb; exact ⟨g, Γ, S, rel, rg, k⟩
      · subst hb; exact h2 c fs Γ S D H g σ cls d rel rg rx k
  | named hN hi hl hg hdb hm ht hs r ih =>
    rename_i x n i C tbl u b₀ suite np pos' hds l
    obtain ⟨l', h1, h2⟩ := ih
    refine ⟨(.ref C, some i, fun a cls d => liftN X i a cls d u) :: l', .named hN hi hl ⟨hg, hdb, Or.inl hm⟩ hs h1, fun c fs Γ S D H g σ cls d rel rg rx k => ?_⟩
    unfold xPick at k
    cases e : tbl.lookup c with
    | none => rw [e] at k; exact k.elim
    | some b =>
      rw [e] at k
      refine ⟨b, ht c b cls e rx.1, fun hb a ha => ?_, fun hb => ?_⟩
      · subst hb
        have hlt : i < X.N.length := (List.getElem?_eq_some_iff.mp hi).1
        have rg0 : RG X H g S.length (Γ.set i none) (σ.set i (some (.ref a))) := by
          refine ⟨by rw [List.length_set, List.length_set]; exact rg.len, fun j p q => ?_⟩
          by_cases z : i = j
          · subst z
            rw [List.getElem?_set] at q
            rw [if_pos rfl] at q
            split at q <;> cases q
          · rw [List.getElem?_set_ne z] at q ⊢
            exact rg.at_ j p q
        have k : OKs X WN D H g S (if i < Γ.length then offR i (u c fs (Γ.set i none) S) else .bad) := k
        by_cases hil : i < Γ.length
        · rw [if_pos hil] at k
          refine ⟨g, Γ.set i none, S, c, fs, rel, rg0, List.getElem?_set_self (rg.len ▸ hil), rx, ?_⟩
          revert k
          cases u c fs (Γ.set i none) S with
          | nx Γ1 S1 => exact fun k g' H' σ' e' r' => k g' H' _ e' r'.unset
          | bk Γ1 S1 => exact fun k g' H' σ' e' r' => k g' H' _ e' r'.unset
          | ct Γ1 S1 => exact fun k g' H' σ' e' r' => k g' H' _ e' r'.unset
          | rt v S1 => exact fun k => k
          | ex c fs Γ1 S1 => exact fun k => k
          | bad => exact fun k => k
        · rw [if_neg hil] at k
          exact k.elim
      · subst hb; exact h2 c fs Γ S D H g σ cls d rel rg rx k
/-! ### values in a suite that names the error -/
abbrev VF := Str → List (Str × PV) → Option PV
abbrev VsF := Str → List (Str × PV) → Option (List PV)
def liftV (X : Cx) (i : Nat) (a : Addr) (cls : Value) (d : Option Addr) (f : VF) : TE := fun σ H Q => ∃ g Γ S c fs p, Rel X H g S ∧ RG X H g S.length Γ σ ∧ σ[i]? = some (some (.ref a)) ∧ RX X H g S.length c fs cls d ∧ f c fs = some p ∧ ∀ g' H' x, Ext X H g S H' g' S → RV X H' g' S.length p x → Q x H'
def liftVs (X : Cx) (i : Nat) (a : Addr) (cls : Value) (d : Option Addr) (f : VsF) : TA := fun σ H Q => ∃ g Γ S c fs ps, Rel X H g S ∧ RG X H g S.length Γ σ ∧ σ[i]? = some (some (.ref a)) ∧ RX X H g S.length c fs cls d ∧ f c fs = some ps ∧ ∀ g' H' xs, Ext X H g S H' g' S → RVs X H' g' S.length ps xs → Q xs H'
/-- what holds of an error that is being handled -/
def VE (X : Cx) (i : Nat) (e : Expr) (f : VF) : Prop := ∀ (a : Addr) (oe : Obj) (cls : Value) (d : Option Addr) (pn : List (Addr × Obj)), Zc cls d oe → (∃ vs, oe.data = .fields vs) → PE (X.suite a ((a, oe) :: pn)) e (liftV X i a cls d f)
def VA (X : Cx) (i : Nat) (es : List Expr) (f : VsF) : Prop := ∀ (a : Addr) (oe : Obj) (cls : Value) (d : Option Addr) (pn : List (Addr × Obj)), Zc cls d oe → (∃ vs, oe.data = .fields vs) → PA (X.suite a ((a, oe) :: pn)) es (liftVs X i a cls d f)
variable {i : Nat}
theorem RX.up {Y : Kx} {H H' : Hp} {g g' : G} {S S' : Sto} {c : Str} {fs : List (Str × PV)} {cls : Value} {d : Option Addr} (rel : Rel Y H g S) (e : Ext Y H g S H' g' S') (h : RX Y H g S.length c fs cls d) : RX Y H' g' S'.length c fs cls d := h.mono (e.up rel)
def vC (p : PV) : VF := fun _ _ => some p
def vFld (x f : Str) : VF := fun c fs => if c = x then fs.lookup f else none
theorem VE.const {e : Expr} {v : V} {p : PV} (h : ∀ (X' : Cx), PE X' e (tC v)) (hp : ∀ H g L, RV X H g L p v) : VE X i e (vC p) := fun a oe cls d pn hz hf =>
  pe_imp (h _) fun σ H Q ⟨g, Γ, S, c, fs, q, rel, rg, hi, rx, e, k⟩ => by
    cases e
    exact k g H v (Ext.refl rel) (hp H g S.length)
theorem VE.str {z : Str} {j : Nat} {pos : Pos} : VE X i (.Constant (.str z) j pos) (vC (.str z)) := VE.const (fun _ => pe_str) fun _ _ _ => RV.str
theorem VE.int {z : Int} {j : Nat} {pos : Pos} : VE X i (.Constant (.int z) j pos) (vC (.int z)) := VE.const (fun _ => pe_int) fun _ _ _ => RV.int
/-- e.f, the error of the class x -/
theorem VE.fld {x f : Str} {C : Addr} {e : Expr} {pos : Pos} (T : XfC X.K C) (hm : X.mg x = some (.ref C)) (hno : PySem.W.findIn X.K (.ref C) f = some none) (he : ∀ (a : Addr) (pn : List (Addr × Obj)), PE (X.suite a pn) e (tVar i)) (hb : attributeBase e f X.env (eval e X.env) = eval e X.env := by rfl) :
    VE X i (.Attribute e f pos) (vFld x f) := fun a oe cls d pn hz hf =>
  pe_imp (pe_xf T hno hz hf (he a _) hb) fun σ H Q ⟨g, Γ, S, c, fs, q, rel, rg, hi, rx, e, k⟩ => by
    unfold vFld at e
    split at e
    · rename_i hc
      subst hc
      obtain ⟨r1, r2⟩ := rx
      have r3 : some (Value.ref C) = some cls := hm.symm.trans r1
      cases r3
      rcases r2 with ⟨rfl, _⟩ | ⟨dx, vs, rfl, hx, rv⟩
      · cases e
      · have find : ∀ (fs : List (Str × PV)) (vs : List V), RVs X H g S.length (fs.map (·.2)) vs → fs.lookup f = some q → ∃ v, ((fs.map (·.1)).zip vs).lookup f = some v ∧ RV X H g S.length q v := by
          intro fs
          induction fs with
          | nil => intro vs _ h; cases h
          | cons p fs ih =>
            intro vs rv h
            obtain ⟨n, w⟩ := p
            simp only [List.map_cons, RVs] at rv
            obtain ⟨v, r, rfl, h1, h2⟩ := rv
            rw [List.lookup_cons] at h
            rw [List.map_cons, List.zip_cons_cons, List.lookup_cons]
            by_cases z : (f == n) = true
            · rw [z] at h ⊢
              cases h
              exact ⟨v, rfl, h1⟩
            · have z : (f == n) = false := by simpa using z
              rw [z] at h ⊢
              exact ih r h2 h
        obtain ⟨v, l1, l2⟩ := find fs vs rv e
        exact ⟨_, hi, rfl, rfl, dx, _, v, rfl, hx, l1, k g H v (Ext.refl rel) l2⟩
    · cases e
def vsNil : VsF := fun _ _ => some []
def vsCons (f : VF) (r : VsF) : VsF := fun c fs => match f c fs, r c fs with
  | some p, some ps => some (p :: ps)
  | _, _ => none
theorem VA.nil : VA X i [] vsNil := fun a oe cls d pn hz hf => pa_imp pa_nil fun σ H Q ⟨g, Γ, S, c, fs, q, rel, rg, hi, rx, e, k⟩ => by
  cases e
  exact k g H [] (Ext.refl rel) RVs.nil
theorem VA.cons {e : Expr} {es : List Expr} {f : VF} {r : VsF} (he : VE X i e f) (hr : VA X i es r) (hs : starEach (e :: es) X.env = (false, eval e X.env) :: starEach es X.env := by rfl) : VA X i (e :: es) (vsCons f r) := fun a oe cls d pn hz hf =>
  pa_imp (pa_cons (he a oe cls d pn hz hf) (hr a oe cls d pn hz hf) hs) fun σ H Q ⟨g, Γ, S, c, fs, q, rel, rg, hi, rx, e, k⟩ => by
    unfold vsCons at e
    split at e
    · rename_i p ps e1 e2
      cases e
      refine ⟨g, Γ, S, c, fs, p, rel, rg, hi, rx, e1, fun g1 H1 x x1 r1 => ?_⟩
      refine ⟨g1, Γ, S, c, fs, ps, x1.rel, rg.up rel x1, hi, RX.up rel x1 rx, e2, fun g2 H2 xs x2 r2 => ?_⟩
      exact k g2 H2 _ (x1.trans x2) (RVs.cons (RV.up x1.rel x2 _ _ r1) r2)
    · cases e
def vDisp (k : Kd) (f : VsF) : VF := fun c fs => match f c fs with
  | some ps => if ps.length ≤ sizeLine then some (.con .own k ps) else none
  | none => none
theorem VE.lst {es : List Expr} {f : VsF} {pos : Pos} (h : VA X i es f) : VE X i (.List es pos) (vDisp .lst f) := fun a oe cls d pn hz hf =>
  pe_imp (pe_lst (h a oe cls d pn hz hf)) fun σ H Q ⟨g, Γ, S, c, fs, q, rel, rg, hi, rx, e, k⟩ => by
    unfold vDisp at e
    split at e
    · rename_i ps e1
      split at e
      · rename_i hl
        cases e
        refine ⟨g, Γ, S, c, fs, ps, rel, rg, hi, rx, e1, fun g1 H1 xs x1 r1 => ⟨by rw [← r1.len]; exact hl, fun p hp => ?_⟩⟩
        obtain ⟨z1, z2⟩ := newF_ok x1.rel hp (k := .lst) (o := .lst _) rfl r1
        exact k _ _ _ (x1.trans z1) z2
      · cases e
    · cases e
theorem VE.tup {es : List Expr} {f : VsF} {x1 : Nat} {pos : Pos} (h : VA X i es f) : VE X i (.Tuple es x1 pos) (vDisp .tup f) := fun a oe cls d pn hz hf =>
  pe_imp (pe_tup (h a oe cls d pn hz hf)) fun σ H Q ⟨g, Γ, S, c, fs, q, rel, rg, hi, rx, e, k⟩ => by
    unfold vDisp at e
    split at e
    · rename_i ps e1
      split at e
      · rename_i hl
        cases e
        refine ⟨g, Γ, S, c, fs, ps, rel, rg, hi, rx, e1, fun g1 H1 xs x1 r1 => ⟨by rw [← r1.len]; exact hl, fun p hp => ?_⟩⟩
        obtain ⟨z1, z2⟩ := newF_ok x1.rel hp (k := .tup) (o := .tup _) rfl r1
        exact k _ _ _ (x1.trans z1) z2
      · cases e
    · cases e
end
end Pv
/-! Pv20: isinstance of an error that is being handled. -/
namespace Pv
open PySem PySem.Spec PyProof.Rows L2
section
variable {X : Cx} {W : WX} {i : Nat}
theorem RX.dict {Y : Kx} {H : Hp} {g : G} {L : Nat} {c : Str} {fs : List (Str × PV)} {cls : Value} {d : Option Addr} (h : RX Y H g L c fs cls d) : d = none ∨ ∃ dd fs, d = some dd ∧ H dd = some (.xd fs) := by
  rcases h.2 with ⟨_, h⟩ | ⟨dx, vs, h1, h2, _⟩
  · exact Or.inl h
  · exact Or.inr ⟨dx, _, h1, h2⟩
end
end Pv
namespace Pv
open PySem PySem.Spec PyProof.Rows L2
section
variable {X : Cx} {W : WX} {N : List Str} {sc : Scope} {k : Nat}
/-- a field f of an own error class x, that may be read -/
structure XfX (K : PySem.W.Frag) (mg : Str → Option Value) (x f : Str) : Prop where
  g : mg x = some (.ref (He.ga K x))
  t : XfC K (He.ga K x)
  no : PySem.W.findIn K (.ref (He.ga K x)) f = some none
theorem Body.suVar (b : Body X W N sc k) (i : Nat) (x : Str) {pos : Pos} (h : slC N sc i x = true) : ∀ (a : Addr) (pn : List (Addr × Obj)), PE (X.suite a pn) (.Name x pos) (tVar i) := by
  have b1 := b.hN
  have b2 := b.sc
  subst b1 b2
  obtain ⟨h1, h2, h3, h4⟩ := slC_ok h
  exact fun a pn => pe_var (X := X.suite a pn) h1 h2 h3 h4
theorem Body.fld (b : Body X W N sc k) {i : Nat} {x f n : Str} {p1 p2 : Pos} (T : XfX X.K X.mg x f) (h : slC N sc i n = true) : VE X i (.Attribute (.Name n p1) f p2) (vFld x f) := VE.fld T.t T.g T.no (b.suVar i n h)
theorem Body.named (b : Body X W N sc k) (nd : N.Nodup) (i : Nat) (n : Str) (h : (decide (N[i]? = some n) && decide (sc.names.lookup n = some .local)) = true) {x : Str} {C : Addr} {tbl : List (Str × Bool)} {u : XF} {b₀ : Stmt} {suite : List Stmt} {np pos' : Pos} {hds : List ExceptHandler} {l : List (List (Str × Bool) × XF)}
    (hg : Gl X x) (hdb : (x == ("__debug__" : Str)) = false) (hm : X.mg x = some (.ref C)) (ht : ∀ c b cls, tbl.lookup c = some b → X.mg c = some cls → PySem.W.exmOne X.K cls (.ref C) = some b)
    (hs : SuOk X (b₀ :: suite) (fun a cls d => liftN X i a cls d u)) (r : HdX X hds l) : HdX X (.ExceptHandler (some (.Name x np)) (some n) (b₀ :: suite) pos' :: hds) ((tbl, xAs i u) :: l) := by
  have b1 := b.hN
  have b2 := b.sc
  subst b1 b2
  simp only [Bool.and_eq_true, decide_eq_true_eq] at h
  exact .named nd h.1 h.2 hg hdb hm ht hs r
end
end Pv
namespace Pv
open PySem PySem.Spec PyProof.Rows L2
/-! What is raised goes on; places that are written. -/
section
variable {Γ : Gam} {S : Sto} {c : Str} {fs : List (Str × PV)} {f f' : OF} {a b tc : EF} {p q : PV} {k : Bool} {tr : AF} {s r : BF}
@[simp] theorem opK_ex : opK f b Γ (.ex c fs S) = .ex c fs S := (rfl)
@[simp] theorem opK2_ex : opK2 f p (.ex c fs S) = .ex c fs S := (rfl)
@[simp] theorem chK_ex : chK f f' b tc Γ (.ex c fs S) = .ex c fs S := (rfl)
@[simp] theorem chK2_ex : chK2 f f' p tc Γ (.ex c fs S) = .ex c fs S := (rfl)
@[simp] theorem uK_ex {g : PV → PV} : uK g (.ex c fs S) = .ex c fs S := (rfl)
@[simp] theorem negK_ex : negK (.ex c fs S) = .ex c fs S := (rfl)
@[simp] theorem beK_ex : beK (.ex c fs S) = .ex c fs S := (rfl)
@[simp] theorem btK_ex : btK (.ex c fs S) = .ex c fs S := (rfl)
@[simp] theorem andK_ex : andK r Γ (.ex c fs S) = .ex c fs S := (rfl)
@[simp] theorem orK_ex : orK r Γ (.ex c fs S) = .ex c fs S := (rfl)
@[simp] theorem notK_ex : notK (.ex c fs S) = .ex c fs S := (rfl)
@[simp] theorem eandK_ex : eandK b Γ (.ex c fs S) = .ex c fs S := (rfl)
@[simp] theorem eorK_ex : eorK b Γ (.ex c fs S) = .ex c fs S := (rfl)
@[simp] theorem enotK_ex : enotK (.ex c fs S) = .ex c fs S := (rfl)
@[simp] theorem eifK_ex : eifK a b Γ (.ex c fs S) = .ex c fs S := (rfl)
@[simp] theorem consK_ex : consK tr Γ (.ex c fs S) = .ex c fs S := (rfl)
@[simp] theorem consK2_ex : consK2 p (.ex c fs S) = .ex c fs S := (rfl)
@[simp] theorem tupK_ex : tupK (.ex c fs S) = .ex c fs S := (rfl)
@[simp] theorem lstK_ex : lstK k (.ex c fs S) = .ex c fs S := (rfl)
@[simp] theorem calK_ex {g : CF} : calK g (.ex c fs S) = .ex c fs S := (rfl)
@[simp] theorem calPK_ex {g : List PV → RP} : calPK g (.ex c fs S) = .ex c fs S := (rfl)
@[simp] theorem calWK_ex {g : List PV → Sto → R PV} : calWK g (.ex c fs S) = .ex c fs S := (rfl)
@[simp] theorem emK_ex {T : String} {g : MF} : emK T g tr Γ (.ex c fs S) = .ex c fs S := (rfl)
@[simp] theorem emK2_ex {g : MF} : emK2 g p (.ex c fs S) = .ex c fs S := (rfl)
@[simp] theorem augK_ex {i : Nat} : augK i f p Γ (.ex c fs S) = .ex c fs Γ S := (rfl)
@[simp] theorem rsK_ex {x y : Str} : rsK x y Γ (.ex c fs S) = .ex c fs Γ S := (rfl)
/-! places -/
section
variable {α : Type} {x0 x1 x2 x3 x4 : α} {xs : List α}
@[simp] theorem atI_0 : L2.atI (x0 :: xs) 0 = some x0 := by
  unfold L2.atI ixN; simp
@[simp] theorem atI_1 : L2.atI (x0 :: x1 :: xs) 1 = some x1 := by
  unfold L2.atI ixN
  rw [if_pos (by decide), if_pos (by simp <;> omega)]; rfl
@[simp] theorem atI_2 : L2.atI (x0 :: x1 :: x2 :: xs) 2 = some x2 := by
  unfold L2.atI ixN
  rw [if_pos (by decide), if_pos (by simp <;> omega)]; rfl
@[simp] theorem atI_3 : L2.atI (x0 :: x1 :: x2 :: x3 :: xs) 3 = some x3 := by
  unfold L2.atI ixN
  rw [if_pos (by decide), if_pos (by simp <;> omega)]; rfl
@[simp] theorem atI_4 : L2.atI (x0 :: x1 :: x2 :: x3 :: x4 :: xs) 4 = some x4 := by
  unfold L2.atI ixN
  rw [if_pos (by decide), if_pos (by simp <;> omega)]; rfl
end
/-! try -/
variable {t : SF} {l : List (List (Str × Bool) × XF)} {u : XF}
@[simp] theorem offR_nx {i : Nat} : offR i (.nx Γ S) = .nx (Γ.set i none) S := (rfl)
end
end Pv
/-! Pv22: instances: fields read, stored; what a class makes. -/
namespace Pv
open PySem PySem.Spec PyProof.Rows L2
section
variable {X : Cx} {W : WX} {H H' H'' : Hp} {g g' : G} {S S' : Sto} {σ : L2.St} {Γ : Gam}
/-- a field f of the class c that may be read and stored -/
structure AttT (K : PySem.W.Frag) (mg : Str → Option Value) (c f : Str) : Prop where
  gg : mg c = some (.ref (He.ga K c))
  cl : Cls K (He.ga K c)
  no : NoAttr K (He.ga K c) f
def attB (K : PySem.W.Frag) (c f : Str) : Bool := He.Fa.ok K (.glo c) && (He.Fa.ok K (.cls c) && He.Fa.ok K (.noat c f))
theorem attB_ok {K : PySem.W.Frag} {h : Heap} {mg : Str → Option Value} {c f : Str} (Y : K.In h) (G : h.Ns mainGlobals mg) (q : attB K c f = true) : AttT K mg c f := by
  obtain ⟨c1, q⟩ := He.ba q
  obtain ⟨c2, c3⟩ := He.ba q
  exact ⟨He.glo_ok Y G c1, He.cls_ok c2, He.noat_ok c3⟩
/-- a field, by name -/
def fldP (cs : List Str) (f : Str) (S : Sto) (p : PV) : Option PV := match derefH S p with
  | some (.ins c ns, xs) => if c ∈ cs then (ns.zip xs).lookup f else none
  | _ => none
theorem zip_lookup {Y : Kx} {L : Nat} {f : Str} {p : PV} : ∀ {ns : List Str} {xs : List PV} {vs : List V}, RVs Y H g L xs vs → (ns.zip xs).lookup f = some p → ∃ v, (ns.zip vs).lookup f = some v ∧ RV Y H g L p v
  | [], xs, vs, _, h => by simp at h
  | n :: ns, [], vs, _, h => by simp at h
  | n :: ns, x :: xs, vs, rv, h => by
    simp only [RVs] at rv
    obtain ⟨v, r, rfl, h1, h2⟩ := rv
    rw [List.zip_cons_cons, List.lookup_cons] at h ⊢
    by_cases z : (f == n) = true
    · rw [z] at h ⊢
      cases h
      exact ⟨v, rfl, h1⟩
    · have z : (f == n) = false := by simpa using z
      rw [z] at h ⊢
      exact zip_lookup h2 h
def eFld (cs : List Str) (f : Str) (t : EF) : EF := fun Γ S => (t Γ S).bind fun p S1 => match fldP cs f S1 p with
  | some v => .ok v S1
  | none => .bad
theorem fld_ok {cs : List Str} {f : Str} {p q : PV} {x : V} (T : ∀ c ∈ cs, AttT X.K X.mg c f) (rel : Rel X H g S) (rx : RV X H g S.length p x) (h : fldP cs f S p = some q) :
    ∃ a C dx fs v, x = .ref a ∧ H a = some (.ins C dx fs) ∧ Cls X.K C ∧ NoAttr X.K C f ∧ fs.lookup f = some v ∧ RV X H g S.length q v := by
  unfold fldP at h
  split at h
  · rename_i c ns xs e
    split at h
    · rename_i hc
      obtain ⟨a, vs, o, rfl, h2, h3, h4⟩ := derefH_ok rel rx e
      obtain ⟨C, dx, hm, hl, rfl⟩ := h3
      have t := T c hc
      have : some (Value.ref (He.ga X.K c)) = some (.ref C) := t.gg.symm.trans hm
      cases this
      obtain ⟨v, l1, l2⟩ := zip_lookup h2 h
      exact ⟨a, _, dx, _, v, rfl, h4, t.cl, t.no, l1, l2⟩
    · cases h
  · cases h
theorem E.fld {cs : List Str} {f : Str} {e : Expr} {t : EF} {pos : Pos} (T : ∀ c ∈ cs, AttT X.K X.mg c f) (h : E X W e t) (hb : attributeBase e f X.env (eval e X.env) = eval e X.env := by rfl) : E X W (.Attribute e f pos) (eFld cs f t) :=
  pe_imp (pe_fld h hb) fun σ H Q ⟨g, Γ, S, rel, rg, ok⟩ => ⟨g, Γ, S, rel, rg, OKw.mono (OKw.bind ok) fun p S1 g1 H1 _ e1 h1 x rx => by
    split at h1
    · rename_i v hv
      obtain ⟨a, C, dx, fs, w, rfl, q1, q2, q3, q4, q5⟩ := fld_ok T e1.rel rx hv
      exact ⟨a, C, dx, fs, w, rfl, q1, q2, q3, q4, OKw.ok e1.rel h1 w q5⟩
    · exact h1.elim⟩
/-! a field stored -/
def putN (f : Str) (v : PV) : List Str → List PV → List Str × List PV
  | [], _ => ([f], [v])
  | n :: ns, xs => match xs with
    | [] => ([f], [v])
    | x :: xs => if n = f then (n :: ns, v :: xs) else (n :: (putN f v ns xs).1, x :: (putN f v ns xs).2)
theorem putN_ok {Y : Kx} {L : Nat} {f : Str} {p : PV} {w : V} (hp : RV Y H g L p w) : ∀ {ns : List Str} {xs : List PV} {vs : List V}, ns.length = vs.length → RVs Y H g L xs vs →
    ∃ ws, RVs Y H g L (putN f p ns xs).2 ws ∧ (putN f p ns xs).1.length = ws.length ∧ (putN f p ns xs).1.zip ws = putF f w (ns.zip vs)
  | [], xs, vs, hl, rv => by
    cases vs with
    | nil => exact ⟨[w], RVs.cons hp RVs.nil, rfl, rfl⟩
    | cons _ _ => simp at hl
  | n :: ns, xs, vs, hl, rv => by
    cases vs with
    | nil => simp at hl
    | cons v vs =>
      cases xs with
      | nil => simp only [RVs] at rv; cases rv
      | cons x xs =>
        simp only [RVs] at rv
        obtain ⟨v', r, e, h1, h2⟩ := rv
        cases e
        by_cases z : n = f
        · refine ⟨w :: vs, ?_, ?_, ?_⟩
          · simp only [putN, if_pos z]; exact RVs.cons hp h2
          · simp only [putN, if_pos z]; simpa using hl
          · simp only [putN, if_pos z, List.zip_cons_cons, putF]
        · obtain ⟨ws, q1, q2, q3⟩ := putN_ok hp (ns := ns) (xs := xs) (vs := vs) (by simpa using hl) h2
          refine ⟨v :: ws, ?_, ?_, ?_⟩
          · simp only [putN, if_neg z]; exact RVs.cons h1 q1
          · simp only [putN, if_neg z, List.length_cons, q2]
          · simp only [putN, if_neg z, List.zip_cons_cons, putF, q3]
def stF (cs : List Str) (f : Str) (v : PV) (S : Sto) (p : PV) : Option Sto := match p with
  | .ref n => match S[n]?.join with
    | some (.ins c ns, xs) => if c ∈ cs ∧ ns.length < 1000 then some (S.set n (some (.ins c (putN f v ns xs).1, (putN f v ns xs).2))) else none
    | _ => none
  | _ => none
def sFldF (cs : List Str) (f : Str) (to te : EF) : SF := fun Γ S => (te Γ S).st Γ fun v S1 => (to Γ S1).st Γ fun o S2 => match stF cs f v S2 o with
  | some S3 => .nx Γ S3
  | none => .bad
theorem St.fld {cs : List Str} {f : Str} {o e : Expr} {to te : EF} {pos pos' : Pos} (T : ∀ c ∈ cs, AttT X.K X.mg c f) (ho : E X W o to) (he : E X W e te) (hs : swapsWith e (some (.Attribute o f pos')) pos.line X.env = pure false := by rfl) :
    St X W (.Assign [.Attribute o f pos'] e pos) (sFldF cs f to te) :=
  ps_imp (ps_fld ho he hs) fun D σ H ⟨g, Γ, S, rel, rg, ok⟩ => by
    refine ⟨g, Γ, S, rel, rg, OKw.mono (OKs.st rel rg ok) fun v S1 g1 H1 _ e1 h1 y ry => ?_⟩
    have rg1 := rg.up rel e1
    refine ⟨g1, Γ, S1, e1.rel, rg1, OKw.mono (OKs.st e1.rel rg1 h1) fun p S2 g2 H2 _ e2 h2 x rx => ?_⟩
    have ry2 := RV.up e1.rel e2 _ _ ry
    have rg2 := rg1.up e1.rel e2
    split at h2
    · rename_i S3 hs3
      unfold stF at hs3
      split at hs3
      · rename_i nn _
        split at hs3
        · rename_i c ns xs ej
          split at hs3
          · rename_i hc
            cases hs3
            have hn := join_some ej
            obtain ⟨u, vs, q1, q2, _, q4⟩ := e2.rel.ob nn _ _ hn
            obtain ⟨C, dx, hm, hl, rfl⟩ := q2
            have t := T c hc.1
            have : some (Value.ref (He.ga X.K c)) = some (.ref C) := t.gg.symm.trans hm
            cases this
            simp only [RV] at rx
            obtain ⟨ws, w1, w2, w3⟩ := putN_ok (f := f) ry2 hl q4
            refine ⟨g2.r nn, _, dx, _, rx.2, q1, t.cl, t.no, ?_, ?_⟩
            · rw [List.length_zip, ← hl]; omega
            · have e3 := set_ok e2.rel hn (k' := .ins c (putN f v ns xs).1) (o' := .ins (He.ga X.K c) dx (putF f y (ns.zip vs))) ⟨_, dx, hm, w2, by rw [w3]⟩ (by intro z; cases z) w1
              exact h2 _ _ σ e3 (rg2.up e2.rel e3)
          · cases hs3
        · cases hs3
      · cases hs3
    · exact h2.elim
end
/-! ### what a class makes: its __init__ as a function of data -/
/-- a new instance of c stands at the first place; the rest as a def's run -/
def runI (c : Str) (np n : Nat) (body : SF) (args : List PV) : RP := if args.length + 1 = np then (match body (some (.ref 0) :: (args.map some ++ List.replicate (n - (args.length + 1)) none)) [some (.ins c [], [])] with
  | .nx _ S => resP S (.ref 0)
  | .rt .non S => resP S (.ref 0)
  | .ex c fs _ S => if cleans (fs.map (·.2)) = true then .ex c fs else .bad
  | _ => .bad) else .bad
def OKi (Y : Kx) (H : Hp) (g : G) (x : Addr) (r : RP) (Q : VK) (E : XK) : Prop := match r with
  | .ok v => ∀ H' F', Gro H g H' F' → RV Y H' (Gp F') 0 v (.ref x) → Q .non H'
  | .ex c fs => ∀ H' F' cls d, Gro H g H' F' → RX Y H' (Gp F') 0 c fs cls d → E cls d H'
  | .bad => False
def spI (Y : Kx) (c : Str) (f : List PV → RP) : Sp := fun vs H Q E => ∃ (H1 : Hp) (x dx C : Addr) (ws : List V) (g : G) (ps : List PV), vs = .ref x :: ws ∧ Y.mg c = some (.ref C) ∧ H1 x = none ∧ H1 dx = none ∧ dx ≠ x ∧ H = upd (upd H1 dx (.own x)) x (.ins C dx []) ∧
  RVs Y H1 g 0 ps ws ∧ (∀ a, g.F a ∨ g.T a → ∃ o, H1 a = some o) ∧ OKi Y H1 g x (f ps) Q E
section
variable {P : Program} {w : World} {K : PySem.W.Frag} {mg : Str → Option Value} {base : Heap}
theorem fnI {c qual : Str} {st : Stmt} {dvs : List V} {kws : List (Str × V)} {f : Addr} {fd : FuncData} {N ps : List Str} {k np n : Nat} {body : SF} (F : FunD K "__init__" qual (defArgs st) (defBody st) (defScope st) dvs kws f fd) (Sc : FnScope N ps (defScope st)) (hnp : ps.length = np) (hn : N.length = n)
    (hbody : ∀ (X : Cx) (W : WX), X.prog = P → X.w = w → X.K = K → X.mg = mg → X.base = base → Body X W N (defScope st) k → Ss X W (defBody st) body) : FnOk P w K mg base (L2.CX P w) (k + 1) f fd ps (spI ⟨K, mg⟩ c (runI c np n body)) := by
  refine F.ok Sc (fun vs H Q E ⟨H1, x, dx, C, ws, g, qs, e, hm, h1, h2, hne, eH, rv, htr, ok⟩ => ?_) (fun cdv A outer s H vs Q E hr ⟨H1, x, dx, C, ws, g, qs, e, hm, h1, h2, hne, eH, rv, htr, ok⟩ => ?_)
  · unfold runI at ok
    split at ok
    · rename_i el
      rw [e, List.length_cons, ← rv.len, el, hnp]
    · exact ok.elim
  · unfold runI at ok
    split at ok
    · rename_i elen
      subst hn
      subst e
      let X := cxOf (L2.CX P w) P w K mg base N qual (defScope st) f cdv A outer s H E
      have tk : Takes X (fun cls d _ H => E cls d H) := takes_of rfl rfl rfl rfl
      have hb := hbody X (fun cls d _ H => E cls d H) rfl rfl rfl rfl rfl ⟨rfl, rfl, rfl, fun _ => rfl, hr, tk, passes_of rfl, rfl, rfl⟩
      -- the state with the new instance
      have hx : H x = some (.ins C dx []) := by rw [eH, upd_same]
      have old : ∀ {a o}, H1 a = some o → H a = some o := fun {a o} q => by
        rw [eH, upd_ne (ne_of_none q h1), upd_ne (ne_of_none q h2)]; exact q
      let g0 : G := ⟨g.F, g.T, fun _ => x⟩
      have nF : ¬ g.F x := fun z => by obtain ⟨o, q⟩ := htr x (Or.inl z); rw [h1] at q; cases q
      have nT : ¬ g.T x := fun z => by obtain ⟨o, q⟩ := htr x (Or.inr z); rw [h1] at q; cases q
      have al : ∀ {i : Nat}, Al [some (Kd.ins c [], ([] : List PV))] i → i = 0 := fun {i} ⟨q, e⟩ => by
        cases i with
        | zero => rfl
        | succ i => simp at e
      have rel : Rel ⟨K, mg⟩ H g0 [some (.ins c [], [])] := by
        refine ⟨fun i kd xs e => ?_, fun i j hi hj _ => (al hi).trans (al hj).symm, fun i _ => nF, fun i _ => nT, fun a z => ?_⟩
        · obtain rfl := al ⟨_, e⟩
          simp only [List.getElem?_cons_zero, Option.some.injEq, Prod.mk.injEq] at e
          obtain ⟨rfl, rfl⟩ := e
          exact ⟨_, [], hx, ⟨C, dx, hm, rfl, rfl⟩, (by intro z; cases z), RVs.nil⟩
        · obtain ⟨o, q⟩ := htr a z
          exact ⟨o, old q⟩
      have up : Up H1 g 0 H g0 1 := ⟨fun a o q _ => old q, fun _ q => q, fun _ q => q, fun i hi => absurd hi (Nat.not_lt_zero _), Nat.zero_le _⟩
      have rv2 : RVs ⟨K, mg⟩ H g0 1 (.ref 0 :: qs) (.ref x :: ws) := RVs.cons (by simp only [RV]; exact ⟨Nat.zero_lt_one, rfl⟩) (RVs.mono up _ _ rv)
      refine ⟨_, hb, g0, _, [some (.ins c [], [])], rel, start_rg (N := N) (n := 0) rv2, ?_⟩
      have gro : ∀ {H' : Hp} {g' : G} {S' : Sto}, Ext ⟨K, mg⟩ H g0 [some (.ins c [], [])] H' g' S' → Gro H1 g H' (endF g' S') := fun {H' g' S'} e => by
        have inH1 : ∀ a, H a = none → H1 a = none := fun a q => by
          cases z : H1 a with
          | none => rfl
          | some o => rw [old z] at q; cases q
        refine ⟨fun a h => Or.inl (e.fr a h), fun a o h => e.frame a o (old h) fun i hi z => ?_, fun a h => ?_, fun a h => ?_⟩
        · have z : x = a := z
          subst z; rw [h1] at h; cases h
        · rcases h with h | ⟨i, hi, rfl⟩
          · exact e.rel.tr a (Or.inl h)
          · exact e.rel.tracked hi
        · rcases h with h | ⟨i, hi, rfl⟩
          · rcases e.nf a h with z | z | ⟨i, _, z⟩
            · exact Or.inl z
            · exact Or.inr (inH1 a z)
            · have z : x = a := z
              subst z; exact Or.inr h1
          · rcases e.old i hi with ⟨_, z⟩ | z
            · rw [z]; exact Or.inr h1
            · exact Or.inr (inH1 _ z)
      have cu : ∀ {H' : Hp} {g' : G} {S' : Sto}, CUp H' g' H' (Gp (endF g' S')) := fun {H' g' S'} => ⟨fun _ _ h _ => h, fun _ h => Or.inl h⟩
      have fin : ∀ {H' : Hp} {g' : G} {S' : Sto}, OKi ⟨K, mg⟩ H1 g x (resP S' (.ref 0)) Q E → Ext ⟨K, mg⟩ H g0 [some (.ins c [], [])] H' g' S' → Q .non H' := fun {H' g' S'} h e => by
        unfold resP at h
        split at h
        · rename_i q eq
          have r0 : RV ⟨K, mg⟩ H' g' S'.length (.ref 0) (.ref x) := by
            simp only [RV]
            exact ⟨Nat.lt_of_lt_of_le Nat.zero_lt_one e.len, by rw [e.rho 0 Nat.zero_lt_one]⟩
          exact h H' _ (gro e) (frzV_ok e.rel 9 _ _ q r0 eq)
        · exact h.elim
      have eΓ : List.map some (PV.ref 0 :: qs) ++ List.replicate (N.length - (PV.ref 0 :: qs).length) none = some (.ref 0) :: (qs.map some ++ List.replicate (N.length - (qs.length + 1)) none) := by simp
      rw [eΓ]
      generalize eb : body (some (.ref 0) :: (qs.map some ++ List.replicate (N.length - (qs.length + 1)) none)) [some (.ins c [], [])] = r at ok
      cases r with
      | nx Γ' S' => exact fun g' H' σ' e1 _ => fin ok e1
      | rt v S' =>
        cases v with
        | non =>
          intro g' H' v' e1 rvv
          rw [rvv.non_inv]
          exact fin ok e1
        | _ => exact ok.elim
      | ex c' fs Γ' S' =>
        intro g' H' σ' cls d e1 _ rx
        have h3 : OKi ⟨K, mg⟩ H1 g x (if cleans (fs.map (·.2)) = true then .ex c' fs else .bad) Q E := ok
        split at h3
        · rename_i cl
          refine h3 H' _ cls d (gro e1) ?_
          obtain ⟨q1, q2⟩ := rx
          refine ⟨q1, ?_⟩
          rcases q2 with q2 | ⟨dx', vs, z1, z2, z3⟩
          · exact Or.inl q2
          · exact Or.inr ⟨dx', vs, z1, z2, RVs.clean cu _ _ cl z3⟩
        · exact h3.elim
      | bk Γ' S' => exact ok.elim
      | ct Γ' S' => exact ok.elim
      | bad => exact ok.elim
    · exact ok.elim
/-- a class that may be called by its name, with so many arguments; dps: what fills up -/
structure Mka (P : Program) (w : World) (K : PySem.W.Frag) (mg : Str → Option Value) (base : Heap) (k : Nat) (c : Str) (f : List PV → RP) (m : Nat) (dps : List PV) : Prop where
  ex : ∃ (C fI : Addr) (fd : FuncData) (ps : List Str) (dvs : List V) (ds : List Value), L2.Mk K C fI ∧ FnOk P w K mg base (L2.CX P w) k fI fd ps (spI ⟨K, mg⟩ c f) ∧ mg c = some (.ref C) ∧ Binds K fd ps ds ∧ Vals dvs ds ∧ ps.length = m + 1 + ds.length ∧ ∀ H g, RVs ⟨K, mg⟩ H g 0 dps dvs
end
section
variable {X : Cx} {W : WX} {CX : CXT} {k j : Nat} {f C : Addr} {fd : FuncData} {ps : List Str} {sp : Sp} {EE : L2.St → XK} {x : Str} {p pos : Pos} {e : Expr} {es : List Expr} {t : TA} {dvs : List V} {ds : List Value}
/-- C(e, ..), what is raised is wished at the caller's slots -/
theorem pe_makeS (M : L2.Mk X.K C f) (F : FnOk X.prog X.w X.K X.mg X.base CX k f fd ps sp) (hr : Room (k + 1) X.A) (hg : Gl X x) (hm : X.mg x = some (.ref C)) (hb : Binds X.K fd ps ds) (hd : Vals dvs ds) (hx : ∀ σ, PassesAt CX X σ (EE σ))
    (ha : PA X (e :: es) t) (hdb : (x == ("__debug__" : Str)) = false := by decide) (he : starEach (e :: es) X.env = (false, eval e X.env) :: starEach es X.env := by rfl) (hpl : (backTo pos (starEach es X.env)).any (·.1) = false := by rfl) :
    PE X (.Call (.Name x p) (e :: es) [] pos) (fun σ H Q => t σ H fun vs H1 => ∀ y dx, H1 y = none → H1 dx = none → dx ≠ y → sp (.ref y :: (vs ++ dvs)) (upd (upd H1 dx (.own y)) y (.ins C dx [])) (fun v H2 => v = .non ∧ Q (.ref y) H2) (EE σ)) := by
  refine ⟨fun pins s σ H Q inv h => wpAny_Call_Name_kw (ld_glob inv hg hm ?_ hdb)⟩
  refine PySem.W.callWith_K (h₀ := X.base) inv.ok.mod.kin M.kp (thn (ha.run pos pins s σ H _ inv h) fun us s1 ⟨vs, H1, I1, rv, q⟩ => ⟨I1.kIn, ?_⟩) he hpl
  have fr : ∀ {i : Nat}, s1.heap.objs.size ≤ i → H1 i = none := fun {i} hi => I1.hok.fresh hi
  have hq := q (s1.heap.objs.size + 1) s1.heap.objs.size (fr (Nat.le_succ _)) (fr (Nat.le_refl _)) (Nat.ne_of_lt (Nat.lt_succ_self _))
  have I2 := Inv.made (C := C) I1
  have r2 : Vals (V.ref (s1.heap.objs.size + 1) :: (vs ++ dvs)) (Value.ref (s1.heap.objs.size + 1) :: (us ++ ds)) := .cons rfl (rv.append hd)
  have hl : (Value.ref (s1.heap.objs.size + 1) :: us ++ ds).length = ps.length := by
    have e := r2.length
    rw [F.len _ _ _ _ hq] at e
    exact e.symm
  have bind := hb _ (Value.ref (s1.heap.objs.size + 1) :: us) I2.kIn hl
  have body := F.run _ X.stack _ _ ⟨Value.ref (s1.heap.objs.size + 1) :: us, []⟩ (Value.ref (s1.heap.objs.size + 1) :: (us ++ ds)) _ _ (EE σ) (hr.make C us []) (I2.env0.make C us []) bind r2 hq
  refine wpAny_call (make_map (f := f) I1.kIn M.makes M.init (beq_iff_eq.mp M.fn) (codeAny_mono body fun r s' z => ?_))
  cases r with
  | error er => exact hx σ pins _ _ er s' I2 z
  | ok fl =>
    cases fl with
    | ret u =>
      obtain ⟨v, H', I3, r3, rfl, q3⟩ := I2.after z
      exact ⟨r3, ⟨V.ref (s1.heap.objs.size + 1), H', I3, rfl, q3⟩⟩
    | _ => exact False.elim z
end
section
variable {X : Cx} {W : WX} {H H' : Hp} {g g' : G} {S S' : Sto} {k j m : Nat} {x : Str} {p pos : Pos} {e : Expr} {es : List Expr} {tr : AF} {f : List PV → RP} {dps : List PV}
def eMakeP (f : List PV → RP) (m : Nat) (dps : List PV) (t : AF) : EF := fun Γ S => (t Γ S).bind fun ps S1 => if ps.length = m then (match ps.mapM (lendV S1) with
  | some qs => match f (qs ++ dps) with
    | .ok v => .ok v S1
    | .ex c fs => .ex c fs S1
    | .bad => .bad
  | none => .bad) else .bad
theorem E.make (c : Mka X.prog X.w X.K X.mg X.base k x f m dps) (hr : Room j X.A) (tk : Takes X W) (hg : Gl X x) (ha : A X W (e :: es) tr) (hk : k + 1 ≤ j := by decide)
    (hdb : (x == ("__debug__" : Str)) = false := by decide) (he : starEach (e :: es) X.env = (false, eval e X.env) :: starEach es X.env := by rfl) (hpl : (backTo pos (starEach es X.env)).any (·.1) = false := by rfl) :
    E X W (.Call (.Name x p) (e :: es) [] pos) (eMakeP f m dps tr) := by
  obtain ⟨C, fI, fd, ps, dvs, ds, M, F, hm, hb, hd, hl, rd⟩ := c.ex
  refine pe_imp (pe_makeS M F (hr.mono hk) hg hm hb hd (passAt tk) ha hdb he hpl) fun σ H Q ⟨g, Γ, S, rel, rg, ok⟩ => ?_
  refine ⟨g, Γ, S, rel, rg, OKw.mono (OKw.bind ok) fun ps S1 g1 H1 _ e1 h1 xs rxs y dx hy hdx hne => ?_⟩
  split at h1
  · split at h1
    · rename_i qs eq
      have htr : ∀ a, (lendG g1 S1).F a ∨ (lendG g1 S1).T a → ∃ o, H1 a = some o := fun a z => by
        rcases z with z | z | ⟨n, hn, rfl⟩
        · exact e1.rel.tr a (Or.inl z)
        · exact e1.rel.tr a (Or.inr z)
        · exact e1.rel.tracked hn
      refine ⟨H1, y, dx, C, xs ++ dvs, lendG g1 S1, qs ++ dps, rfl, hm, hy, hdx, hne, rfl, (mapM_rv (fun p x q h e => lendV_ok e1.rel h e) rxs eq).append (rd _ _), htr, ?_⟩
      have cu : ∀ {H' : Hp} {F' : Addr → Prop}, Up H' (Gp F') 0 H' ⟨F', g1.T, g1.r⟩ S1.length := fun {H' F'} => ⟨fun _ _ h _ => h, fun _ h => h, fun _ h => False.elim h, fun n h => absurd h (Nat.not_lt_zero n), Nat.zero_le _⟩
      split at h1
      · rename_i v ev
        rw [ev]
        exact fun H' F' u rv => ⟨rfl, h1 _ _ (u.ext e1.rel) (.ref y) (RV.mono cu _ _ rv)⟩
      · rename_i c fs ev
        rw [ev]
        exact fun H' F' cls d u rx => h1 _ _ cls d (u.ext e1.rel) (rx.mono cu)
      · exact h1.elim
    · exact h1.elim
  · exact h1.elim
end
end Pv
/-! Pv23: a written dict's .get, insert, chains of three. -/
namespace Pv
open PySem PySem.Spec PyProof.Rows L2
section
variable {X : Cx} {W : WX} {H H' H'' : Hp} {g g' : G} {S S' : Sto} {σ : L2.St} {Γ : Gam}
/-! ### NAME.get(e, f) of a dict of the module -/
def tWGet (K : PySem.W.Frag) (w : World) (td ty tx : TE) : TE := fun σ H Q => td σ H fun x H1 => ∃ a es n, x = .ref a ∧ KDict K w a es n ∧ ty σ H1 fun y H2 => tx σ H2 fun z H3 => ∃ s r, y = .str s ∧ PySem.W.nsIn K a s = some r ∧
  (match r with | some u => ∃ v, RelV v u ∧ Q v H3 | none => Q z H3)
theorem pe_wget {o e f : Expr} {apos cpos : Pos} {td ty tx : TE} (ho : PE X o td) (he : PE X e ty) (hf : PE X f tx) (m : M2 X o "get" apos e f cpos) : PE X (.Call (.Attribute o "get" apos) [e, f] [] cpos) (tWGet X.K X.w td ty tx) := by
  refine ⟨fun pins s σ H Q I h => ?_⟩
  refine wpAny_Call_method m.base m.few m.line PySem.F.plainAttrs_dict PySem.F.slot_dict_get PySem.F.type_dict_get (thn (ho.run pins s σ H _ I h) fun u s1 ⟨x, H1, I1, rx, a, es, n, ex, D, q1⟩ => ?_)
  subst ex
  obtain rfl : u = Value.ref a := rx
  have hm := PySem.W.mapOf_K (prog := X.prog) (w := X.w) I1.kIn D.at_ D.lit
  refine ⟨hm.typeIs, fun b q => ?_, ?_⟩
  · cases q
    exact ⟨_, I1.kIn _ _ D.at_, rfl⟩
  rw [m.trees]
  refine Calls.callWith_builtin rfl (Calls.evalArgs_plain (Calls.spliced_cons (thn (he.run pins s1 σ H1 _ I1 q1) fun iv s2 ⟨y, H2, I2, ry, q2⟩ =>
    Calls.spliced_cons (thn (hf.run pins s2 σ H2 _ I2 q2) fun fv s3 ⟨z, H3, I3, rz, t, r, ey, hn, q3⟩ => Calls.spliced_nil ?_))))
  subst ey
  obtain ⟨tk, rfl⟩ : ∃ tk, iv = .str t tk := ry
  have hm3 := PySem.W.mapOf_K (prog := X.prog) (w := X.w) I3.kIn D.at_ D.lit
  refine call_meetsIn PySem.F.slot_dict_get hm3.typeIs PySem.F.entry_dict_get (PySem.F.args_dict_get_3 _ _ _) (meets_dict_get_default (strKind X.prog X.w) a (strKind_is X.prog X.w t tk) D.low fv) ⟨_, hm3, ?_⟩
  rw [PySem.W.find_K D.at_ hn]
  cases r with
  | none => exact ⟨z, H3, I3.tok _, rz, q3⟩
  | some u =>
    obtain ⟨v, rv, q⟩ := q3
    exact ⟨v, H3, I3.tok _, rv, q⟩
/-- a dict of the module: text keys, ints -/
structure WMap (K : PySem.W.Frag) (w : World) (mg : Str → Option Value) (x : Str) (kvs : List (Str × Int)) : Prop where
  ex : ∃ a es n, mg x = some (.ref a) ∧ KDict K w a es n ∧ ∀ z, ∃ r, PySem.W.nsIn K a z = some r ∧ (match kvs.lookup z with | some i => ∃ t, r = some (.int i t) | none => r = none)
def mgetV (kvs : List (Str × Int)) (s : Str) (q : PV) : PV := match kvs.lookup s with
  | some i => .int i
  | none => q
def mgetF (kvs : List (Str × Int)) : OF := fun p q S => match p with
  | .str s => some (mgetV kvs s q, S)
  | _ => none
@[simp] theorem mgetF_str {kvs : List (Str × Int)} {s : Str} {q : PV} : mgetF kvs (.str s) q S = some (mgetV kvs s q, S) := (rfl)
theorem E.wget {x : Str} {kvs : List (Str × Int)} {e f : Expr} {te tf : EF} {p ap cp : Pos} (hg : Gl X x) (hm : WMap X.K X.w X.mg x kvs) (he : E X W e te) (hf : E X W f tf) (hd : (x == ("__debug__" : Str)) = false := by decide)
    (m : M2 X (.Name x p) "get" ap e f cp := by exact ⟨rfl, rfl, rfl, rfl⟩) : E X W (.Call (.Attribute (.Name x p) "get" ap) [e, f] [] cp) (eOp (mgetF kvs) te tf) := by
  obtain ⟨a, es, n, h1, h2, h3⟩ := hm.ex
  refine pe_imp (pe_wget (pe_glob (v := .ref a) hg h1 rfl hd) he hf m) fun σ H Q ⟨g, Γ, S, rel, rg, ok⟩ => ?_
  refine ⟨a, es, n, rfl, h2, g, Γ, S, rel, rg, OKw.mono (OKw.bind ok) fun p1 S1 g1 H1 _ e1 k1 y ry => ?_⟩
  have rg1 := rg.up rel e1
  refine ⟨g1, Γ, S1, e1.rel, rg1, OKw.mono (OKw.bind k1) fun q S2 g2 H2 _ e2 k2 z rz => ?_⟩
  have ry2 := RV.up e1.rel e2 _ _ ry
  cases p1 with
  | str s =>
    obtain ⟨r, hr, hl⟩ := h3 s
    refine ⟨s, r, ry2.str_inv, hr, ?_⟩
    have k2 : OKw X W σ H2 g2 S2 (.ok (mgetV kvs s q) S2) _ := k2
    unfold mgetV at k2
    cases ei : kvs.lookup s with
    | some i =>
      rw [ei] at k2 hl
      obtain ⟨t, rfl⟩ := hl
      exact ⟨.int i, ⟨t, rfl⟩, OKw.ok e2.rel k2 _ RV.int⟩
    | none =>
      rw [ei] at k2 hl
      have hl : r = none := hl
      subst hl
      exact OKw.ok e2.rel k2 _ rz
  | _ => exact k2.elim
/-- the check of such a dict -/
def relK : List DictEntry → List (Str × Int) → Bool
  | [], [] => true
  | e :: es, (k, i) :: kvs => (match e.key with | .str x _ => decide (x = k) | _ => false) && ((match e.val with | .int j _ => decide (j = i) | _ => false) && relK es kvs)
  | _, _ => false
theorem relK_get {z : Str} : ∀ {es : List DictEntry} {kvs : List (Str × Int)}, relK es kvs = true → (es.any (·.refKey) = false) ∧ (match kvs.lookup z with | some i => ∃ e t, es.find? (·.key.isStr z) = some e ∧ e.val = .int i t | none => es.find? (·.key.isStr z) = none)
  | [], [], _ => ⟨rfl, rfl⟩
  | [], _ :: _, h => by cases h
  | _ :: _, [], h => by cases h
  | e :: es, (k, i) :: kvs, h => by
    obtain ⟨h1, h⟩ := He.ba (show ((match e.key with | .str x _ => decide (x = k) | _ => false) && ((match e.val with | .int j _ => decide (j = i) | _ => false) && relK es kvs)) = true from h)
    obtain ⟨h2, h3⟩ := He.ba h
    obtain ⟨q1, q2⟩ := relK_get h3
    split at h1
    · rename_i x tx ek
      split at h2
      · rename_i j tj ev
        have h1 := of_decide_eq_true h1
        have h2 := of_decide_eq_true h2
        subst h1 h2
        refine ⟨?_, ?_⟩
        · rw [List.any_cons, q1]
          simp [DictEntry.refKey, ek]
        · rw [List.lookup_cons]
          by_cases zx : z = x
          · subst zx
            simp only [BEq.rfl]
            exact ⟨e, tj, by rw [List.find?_cons, ek]; simp [Value.isStr], ev⟩
          · have z1 : (z == x) = false := by simpa using zx
            rw [z1]
            have z2 : e.key.isStr z = false := by rw [ek]; simp [Value.isStr]; exact fun h => zx h.symm
            simp only [List.find?_cons, z2]
            exact q2
      · cases h2
    · cases h1
def mapB (K : PySem.W.Frag) (x : Str) (kvs : List (Str × Int)) : Bool := match K.lookup (He.ga K x) with
  | some ⟨_, _, .dict es _, _⟩ => relK es.toList kvs
  | _ => false
theorem mapB_ok {K : PySem.W.Frag} {w : World} {h : Heap} {mg : Str → Option Value} {x : Str} {kvs : List (Str × Int)} (Y : K.In h) (G : h.Ns mainGlobals mg) (c : (He.Fa.glo x).ok K = true) (d : ∃ es n, KDict K w (He.ga K x) es n) (q : mapB K x kvs = true) : WMap K w mg x kvs := by
  obtain ⟨es, n, D⟩ := d
  refine ⟨_, es, n, He.glo_ok Y G c, D, fun z => ?_⟩
  unfold mapB at q
  rw [D.at_] at q
  have q : relK es.toList kvs = true := q
  obtain ⟨q1, q2⟩ := relK_get (z := z) q
  unfold PySem.W.nsIn
  rw [D.at_]
  dsimp only
  split at q2
  · obtain ⟨e, t, h1, h2⟩ := q2
    rw [h1]
    exact ⟨_, rfl, t, by rw [h2]⟩
  · rw [q2, q1]
    exact ⟨none, rfl, rfl⟩
/-! ### insert -/
def insertF : MF := lstF fun xs ps => match ps with
  | [.int i, v] => if xs.length < sizeLine ∧ 0 ≤ i ∧ i < 9223372036854775808 then some (.non, xs.take i.toNat ++ [v] ++ xs.drop i.toNat) else none
  | _ => none
@[simp] theorem insertF_eq : insertF = lstF fun xs ps => match ps with
  | [.int i, v] => if xs.length < sizeLine ∧ 0 ≤ i ∧ i < 9223372036854775808 then some (.non, xs.take i.toNat ++ [v] ++ xs.drop i.toNat) else none
  | _ => none := (rfl)
theorem mtf_insert : MtF X (fun x vs H Q => ∃ (l : Addr) (xs : List V) (i : Int) (y : V), x = .ref l ∧ vs = [.int i, y] ∧ H l = some (.lst xs) ∧ xs.length < sizeLine ∧ 0 ≤ i ∧ i < 2 ^ 63 ∧
    Q .non (upd H l (.lst (xs.take i.toNat ++ [y] ++ xs.drop i.toNat)))) insertF := by
  intro H g S p ps x xs w S' Q rel rx rxs h k
  obtain ⟨n, ys, vs, ys', rfl, rfl, hn, hH, hr, hf, rfl⟩ := lstF_inv rel rx h
  split at hf
  · split at hf
    · rename_i i v hl
      cases hf
      simp only [RVs] at rxs
      obtain ⟨u, r, rfl, h2, u2, r2, rfl, h3, rfl⟩ := rxs
      obtain rfl := h2.int_inv
      exact ⟨g.r n, vs, i, u2, rfl, rfl, hH, by rw [← hr.len]; exact hl.1, hl.2.1, by have := hl.2.2; omega, k g _ _ (set_ok (k' := .lst) rel hn (o' := .lst (vs.take i.toNat ++ [u2] ++ vs.drop i.toNat)) rfl (by decide) (((hr.take _).append (RVs.cons h3 RVs.nil)).append (hr.drop _))) RV.non⟩
    · cases hf
  · cases hf
/-! ### a op b op c op d, whole numbers, as a test -/
def ch3K3 (f : Int → Int → Bool) (k : Int) (r : R PV) : R Bool := r.bind fun w S4 => match w with
  | .int l => .ok (f k l) S4
  | _ => .bad
def ch3K2 (f f' : Int → Int → Bool) (j : Int) (td : EF) (Γ : Gam) (r : R PV) : R Bool := r.bind fun z S3 => match z with
  | .int k => if f j k = true then ch3K3 f' k (td Γ S3) else .ok false S3
  | _ => .bad
def ch3K1 (f f' f'' : Int → Int → Bool) (x : PV) (tc td : EF) (Γ : Gam) (r : R PV) : R Bool := r.bind fun y S2 => match x, y with
  | .int i, .int j => if f i j = true then ch3K2 f' f'' j td Γ (tc Γ S2) else .ok false S2
  | _, _ => .bad
def ch3K0 (f f' f'' : Int → Int → Bool) (tb tc td : EF) (Γ : Gam) (r : R PV) : R Bool := r.bind fun x S1 => ch3K1 f f' f'' x tc td Γ (tb Γ S1)
def bCh3 (f f' f'' : Int → Int → Bool) (ta tb tc td : EF) : BF := fun Γ S => ch3K0 f f' f'' tb tc td Γ (ta Γ S)
section
variable {f f' f'' : Int → Int → Bool} {ta tb tc td : EF} {x : PV} {i j k l : Int}
@[simp] theorem bCh3_eq : bCh3 f f' f'' ta tb tc td Γ S = ch3K0 f f' f'' tb tc td Γ (ta Γ S) := (rfl)
@[simp] theorem ch3K0_ok : ch3K0 f f' f'' tb tc td Γ (.ok x S) = ch3K1 f f' f'' x tc td Γ (tb Γ S) := (rfl)
@[simp] theorem ch3K1_ok : ch3K1 f f' f'' (.int i) tc td Γ (.ok (.int j) S) = if f i j = true then ch3K2 f' f'' j td Γ (tc Γ S) else .ok false S := (rfl)
@[simp] theorem ch3K2_ok : ch3K2 f f' j td Γ (.ok (.int k) S) = if f j k = true then ch3K3 f' k (td Γ S) else .ok false S := (rfl)
@[simp] theorem ch3K3_ok : ch3K3 f k (.ok (.int l) S) = .ok (f k l) S := (rfl)
end
end
end Pv
/-! Pv24: classes that may be called; len of an own instance. -/
namespace Pv
open PySem PySem.Spec PyProof.Rows L2
section
variable {K : PySem.W.Frag}
/-- a default that is an empty tuple -/
def dfTB (K : PySem.W.Frag) (f : Str × Option Str) (i : Nat) : Bool := match K.lookup (He.dflAt f i K) with
  | some ⟨.type c, _, .seq its _, _⟩ => decide (c = "tuple") && its.isEmpty
  | _ => false
theorem dfT_ok {mg : Str → Option Value} {f : Str × Option Str} {i : Nat} (h : dfTB K f i = true) (H : Hp) (g : G) (L : Nat) : RV ⟨K, mg⟩ H g L (.con .out .tup []) (.ref (He.dflAt f i K)) := by
  simp only [RV]
  refine ⟨_, [], rfl, Or.inr ?_, RVs.nil⟩
  unfold dfTB at h
  split at h
  · rename_i c d its n sl e
    obtain ⟨h1, h2⟩ := He.ba h
    have h1 := of_decide_eq_true h1
    subst h1
    have h2 : its = #[] := Array.isEmpty_iff.mp h2
    subst h2
    exact ⟨_, #[], n, e, rfl, rfl, by simp, .nil⟩
  · cases h
end
def lenOF (c : Str) (f : List PV → RP) (S : Sto) (p : PV) : Option (Kd × List PV) → Option (PV × Sto)
  | some (.ins c' _, _) => if c' = c then (match lendV S p with
    | some q => (match f [q] with
      | .ok (.int n) => if 0 ≤ n ∧ n < 9223372036854775808 then some (.int n, S) else none
      | _ => none)
    | none => none) else none
  | _ => none
def lenF2 (c : Str) (f : List PV → RP) : CF := fun ps S => match lenF ps S with
  | some r => some r
  | none => match ps with
    | [p] => lenOF c f S p (derefH S p)
    | _ => none
section
variable {c : Str} {f : List PV → RP} {S : Sto} {m : Md} {ps : List PV}
@[simp] theorem lenF2_lst : lenF2 c f [.con m .lst ps] S = some (.int ps.length, S) := (rfl)
@[simp] theorem lenF2_tup : lenF2 c f [.con m .tup ps] S = some (.int ps.length, S) := (rfl)
end
end Pv
namespace Pv
theorem atts_nil {K : PySem.W.Frag} {mg : PySem.Str → Option PySem.Value} {f : PySem.Str} : ∀ c ∈ ([] : List PySem.Str), AttT K mg c f := fun _ h => absurd h (List.not_mem_nil)
theorem atts_cons {K : PySem.W.Frag} {mg : PySem.Str → Option PySem.Value} {c f : PySem.Str} {cs : List PySem.Str} (h : AttT K mg c f) (r : ∀ d ∈ cs, AttT K mg d f) : ∀ d ∈ c :: cs, AttT K mg d f := fun d m => by
  rcases List.mem_cons.mp m with m | m
  · subst m; exact h
  · exact r d m
end Pv
/-! Pv25: enumerate of a list that stands still. -/
namespace Pv
open PySem PySem.Spec PyProof.Rows L2
def enumF : Nat → List PV → List PV
  | _, [] => []
  | i, x :: xs => .con .own .tup [.int i, x] :: enumF (i + 1) xs
theorem enumF_get : ∀ {xs : List PV} {i j : Nat}, (enumF i xs)[j]? = (xs[j]?).map fun x => .con .own .tup [.int (i + j : Nat), x]
  | [], i, j => by simp [enumF]
  | x :: xs, i, 0 => by simp [enumF]
  | x :: xs, i, j + 1 => by
    simp only [enumF, List.getElem?_cons_succ]
    rw [enumF_get, show i + 1 + j = i + (j + 1) from by omega]
def iED : PV → Option (Stp × Nat)
  | .con _ .lst xs => some (stL (enumF 0 xs), (enumF 0 xs).length + 1)
  | _ => none
def iE (t : EF) : IF := fun Γ S => (t Γ S).bind fun p S1 => match iED p with
  | some q => .ok q S1
  | none => .bad
section
variable {X : Cx} {W : WX} {H H' : Hp} {g g' : G} {S S' : Sto} {σ : L2.St} {Γ : Gam}
theorem jok_enum {Y : Kx} {m : Md} {xs : List PV} {v : V} (rel : Rel Y H g S) (rv : RV Y H g S.length (.con m .lst xs) v) : ∃ a, v = .ref a ∧ (∃ vs, SqL Y.K H a vs) ∧ JOK Y (Ite Y.K a) (stL (enumF 0 xs)) H g S := by
  have rv0 := rv
  simp only [RV] at rv
  obtain ⟨a, vs, rfl, h2, h3⟩ := rv
  refine ⟨a, rfl, ⟨vs, h2.rdd.lst⟩, fun g' H' S' i e => ?_⟩
  have rv2 := RV.up rel e _ _ rv0
  simp only [RV] at rv2
  obtain ⟨b, ws, eb, q2, q3⟩ := rv2
  cases eb
  have sq := q2.rdd.lst
  refine ⟨fun p hp => ?_, fun hp => ?_⟩
  · have hp : (enumF 0 xs)[i]? = some p := Option.some.inj hp
    rw [enumF_get] at hp
    obtain ⟨x, hx, rfl⟩ := Option.map_eq_some_iff.mp hp
    obtain ⟨y, u1, u2⟩ := q3.get hx
    refine ⟨⟨ws, y, sq, u1⟩, fun u H2 w => ?_⟩
    obtain ⟨T, z, rfl, hT, rfl, hz⟩ := w
    have hz := hz ws sq
    rw [u1] at hz
    cases hz
    obtain ⟨k1, k2⟩ := newF_ok (k := .tup) (xs := [.int (0 + i : Nat), x]) (vs := [.int (i : Nat), y]) e.rel hT rfl (RVs.cons (by rw [Nat.zero_add]; exact RV.int) (RVs.cons u2 RVs.nil))
    exact ⟨_, k1, k2⟩
  · have hp : (enumF 0 xs)[i]? = none := Option.some.inj hp
    rw [enumF_get, Option.map_eq_none_iff] at hp
    exact ⟨ws, sq, by rw [← q3.len]; exact List.getElem?_eq_none_iff.mp hp⟩
def ieK (r : R PV) : R (Stp × Nat) := r.bind fun p S1 => match iED p with
  | some q => .ok q S1
  | none => .bad
@[simp] theorem iE_eq {t : EF} : iE t Γ S = ieK (t Γ S) := (rfl)
@[simp] theorem ieK_lst {m : Md} {xs : List PV} : ieK (.ok (.con m .lst xs) S) = .ok (stL (enumF 0 xs), (enumF 0 xs).length + 1) S := (rfl)
end
end Pv
/-! Pv26: properties that hand out a field; isinstance of own instances; own ==. -/
namespace Pv
open PySem PySem.Spec PyProof.Rows L2
section
/-! ### a property whose getter hands out a field -/
def pa (K : PySem.W.Frag) (C : Addr) (f : Str) : Addr := match PySem.W.findIn K (.ref C) f with
  | some (some (.ref p)) => p
  | _ => 0
def pg (K : PySem.W.Frag) (C : Addr) (f : Str) : Addr := match PySem.W.recIn K (pa K C f) "property" with
  | some (.ref g :: _) => g
  | _ => 0
end
/-! ### == by an own __eq__ -/
structure EqT (P : Program) (w : World) (K : PySem.W.Frag) (mg : Str → Option Value) (base : Heap) (k : Nat) (c : Str) (f : List PV → RP) : Prop where
  ex : ∃ (C fI : Addr) (fd : FuncData) (ps : List Str), mg c = some (.ref C) ∧ PySem.W.findIn K (.ref C) "__eq__" = some (some (.ref fI)) ∧ PySem.W.isFn K (.ref fI) = true ∧ FnOk P w K mg base (L2.CX P w) k fI fd ps (spP ⟨K, mg⟩ f) ∧ Binds K fd ps []
def rOwnEq (C : Addr) (sp : Sp) : R2 := fun x y H Q => ∃ a b da db fa fb, x = .ref a ∧ y = .ref b ∧ H a = some (.ins C da fa) ∧ H b = some (.ins C db fb) ∧ sp [.ref a, .ref b] H (fun v H' => ∃ k, v = .bl k ∧ Q (.bl k) H') (fun _ _ _ => False)
section
variable {X : Cx} {k : Nat} {C fI : Addr} {fd : FuncData} {ps : List Str} {sp : Sp}
theorem or_own (hu : X.A.units < cLine) (F : FnOk X.prog X.w X.K X.mg X.base (L2.CX X.prog X.w) k fI fd ps sp) (hr : Room k X.A) (hs : PySem.W.findIn X.K (.ref C) "__eq__" = some (some (.ref fI))) (hf : PySem.W.isFn X.K (.ref fI) = true) (hb : Binds X.K fd ps []) :
    OpR X (compareOp .Eq) (rOwnEq C sp) := by
  intro pins s σ H x y v u Q I rx ry h
  obtain ⟨a, b, da, db, fa, fb, rfl, rfl, ea, eb, q⟩ := h
  obtain rfl : v = Value.ref a := rx
  obtain rfl : u = Value.ref b := ry
  obtain ⟨m1, O1, _⟩ := ins_get I.hok ea
  obtain ⟨m2, O2, _⟩ := ins_get I.hok eb
  obtain ⟨o1, J1, _⟩ := O1.look
  obtain ⟨o2, J2, _⟩ := O2.look
  obtain ⟨m, hfr⟩ := I.fr
  have hlen := F.len _ _ _ _ q
  have hbd : BindsTo s fd ⟨[Value.ref a, .ref b], []⟩ (ps.zip [Value.ref a, .ref b]) := by
    have z := hb s [.ref a, .ref b] I.kIn (by simpa using hlen)
    simpa using z
  have two : Vals [V.ref a, V.ref b] [Value.ref a, Value.ref b] := .cons rfl (.cons rfl .nil)
  have run : wpAny (model X.prog X.w) X.A (call (.ref fI) [.ref a, .ref b]) (fun v s' => ∃ k, v = .bool k ∧ ∃ H', Inv X pins σ H' s' ∧ Q (.bl k) H') X.xe s := by
    refine wpAny_call (codeAny_mono (F.run X.A X.stack s H ⟨[.ref a, .ref b], []⟩ [.ref a, .ref b] [.ref a, .ref b] _ _ hr I.env0 hbd two q) fun r s' hq => ?_)
    cases r with
    | error er =>
      obtain ⟨_, _, _, _, _, _, _, _, _, _, _, _, h⟩ := hq
      exact h.elim
    | ok fl =>
      cases fl with
      | ret u =>
        obtain ⟨v, H', I3, rv, k, rfl, q3⟩ := I.after hq
        exact ⟨k, rv, H', I3, q3⟩
      | next => exact False.elim hq
      | brk => exact False.elim hq
      | cont => exact False.elim hq
  show wpAny (model X.prog X.w) X.A (richCompare .Eq (.ref a) (.ref b)) (EP X pins σ Q) X.xe s
  refine PySem.W.cmp_K (op := .Eq) (tb := .ref C) hu hfr I.ok.mod.kin J1 J2.type (by simp [PySem.W.notFirst]) hs hf (wpAny_mono run (fun r s' hr => ?_) fun _ _ z => z)
  obtain ⟨k, rfl, H', I', q'⟩ := hr
  exact ⟨.bl k, H', I', rfl, q'⟩
end
def eqOF (c : Str) (f : List PV → RP) (S : Sto) (p q : PV) : Option (PV × Sto) := match derefH S p, derefH S q with
  | some (.ins c1 _, _), some (.ins c2 _, _) => if c1 = c ∧ c2 = c then (match lendV S p, lendV S q with
    | some p', some q' => (match f [p', q'] with
      | .ok (.bl b) => some (.bl b, S)
      | _ => none)
    | _, _ => none) else none
  | _, _ => none
def eqF2 (c : Str) (f : List PV → RP) : OF := fun p q S => match eqF p q S with
  | some r => some r
  | none => eqOF c f S p q
section
variable {X : Cx} {W : WX} {k j : Nat} {c : Str} {f : List PV → RP} {a b : Expr} {ta tb : EF} {pos : Pos}
theorem opf_eq2 {C : Addr} (hc : X.mg c = some (.ref C)) : OpF X (fun x y H Q => (rEq x y H Q ∨ rEqP X.K x y H Q) ∨ rOwnEq C (spP X f) x y H Q) (eqF2 c f) := by
  intro H g S p q x y w S' Q rel rx ry h kk
  unfold eqF2 at h
  split at h
  · rename_i r hl
    cases h
    exact Or.inl (opf_eq H g S p q x y w S' Q rel rx ry hl kk)
  · unfold eqOF at h
    split at h
    · rename_i c1 n1 y1 c2 n2 y2 e1 e2
      split at h
      · rename_i ec
        obtain ⟨rfl, ec2⟩ := ec
        subst ec2
        split at h
        · rename_i p' q' l1 l2
          split at h
          · rename_i b ef
            cases h
            obtain ⟨a, va, oa, rfl, h2, h3, h4⟩ := derefH_ok rel rx e1
            obtain ⟨C1, d1, m1, z1, rfl⟩ := h3
            obtain ⟨a2, vb, ob, rfl, k2, k3, k4⟩ := derefH_ok rel ry e2
            obtain ⟨C2, d2, m2, z2, rfl⟩ := k3
            have i1 : some (Value.ref C) = some (.ref C1) := hc.symm.trans m1
            have i2 : some (Value.ref C) = some (.ref C2) := hc.symm.trans m2
            cases i1
            cases i2
            refine Or.inr ⟨a, a2, d1, d2, _, _, rfl, rfl, h4, k4, lendG g S, [p', q'], RVs.cons (lendV_ok rel rx l1) (RVs.cons (lendV_ok rel ry l2) RVs.nil), fun a z => ?_, ?_⟩
            · rcases z with z | z | ⟨n, hn, rfl⟩
              · exact rel.tr a (Or.inl z)
              · exact rel.tr a (Or.inr z)
              · exact rel.tracked hn
            · rw [ef]
              exact fun H' F' x u rv => ⟨b, rv.bl_inv, kk _ _ _ (u.ext rel) RV.bl⟩
          · cases h
        · cases h
      · cases h
    · cases h
theorem or_eq2 {C fI : Addr} {fd : FuncData} {ps : List Str} {sp : Sp} (hu : X.A.units + 64 < cLine) (F : FnOk X.prog X.w X.K X.mg X.base (L2.CX X.prog X.w) k fI fd ps sp) (hr : Room k X.A) (hs : PySem.W.findIn X.K (.ref C) "__eq__" = some (some (.ref fI))) (hf : PySem.W.isFn X.K (.ref fI) = true) (hb : Binds X.K fd ps []) :
    OpR X (compareOp .Eq) (fun x y H Q => (rEq x y H Q ∨ rEqP X.K x y H Q) ∨ rOwnEq C sp x y H Q) := OpR.or (or_eq hu) (or_own (by omega) F hr hs hf hb)
theorem E.eq2 (t : EqT X.prog X.w X.K X.mg X.base k c f) (hr : Room j X.A) (hu : X.A.units + 64 < cLine) (ha : E X W a ta) (hb : E X W b tb) (hk : k ≤ j := by decide) : E X W (.Compare a [.Eq] [b] pos) (eOp (eqF2 c f) ta tb) := by
  obtain ⟨C, fI, fd, ps, hc, h1, h2, F, bd⟩ := t.ex
  exact E.cmp (or_eq2 hu F (hr.mono hk) h1 h2 bd) (opf_eq2 hc) ha hb (nomark _)
theorem B.eq2 (t : EqT X.prog X.w X.K X.mg X.base k c f) (hr : Room j X.A) (hu : X.A.units + 64 < cLine) (ha : E X W a ta) (hb : E X W b tb) (hk : k ≤ j := by decide) : B X W (.Compare a [.Eq] [b] pos) (bE (eOp (eqF2 c f) ta tb)) := by
  obtain ⟨C, fI, fd, ps, hc, h1, h2, F, bd⟩ := t.ex
  exact B.cmp (or_eq2 hu F (hr.mono hk) h1 h2 bd) (opf_eq2 hc) ha hb (nomark _)
end
/-! ### isinstance(x, C) of an instance of C -/
def isoB (K : PySem.W.Frag) (c : Str) : Bool := He.Fa.ok K (.glo c) && (He.Fa.ok K (.cls c) && (decide (PySem.W.findIn K (.ref (He.ga K c)) "__class__" = some (some (.builtin "object.__class__"))) &&
  (decide (PySem.W.specialIn K (.builtin "object.__class__") "__get__" = some (some (.builtin "getset_descriptor.__get__"))) && (decide (PySem.W.takesIn K (.builtin "object.__class__") = some true) &&
  (decide (PySem.W.mroIn K (He.ga K c) (.type "object") = some true) && decide (PySem.W.kitOne K (.ref (He.ga K c)) (.ref (He.ga K c)) = some true))))))
structure IsoT (K : PySem.W.Frag) (mg : Str → Option Value) (c : Str) : Prop where
  gg : mg c = some (.ref (He.ga K c))
  ty : ∀ {H : Hp} {a dx : Addr} {fs : List (Str × V)}, H a = some (.ins (He.ga K c) dx fs) → TyOf K H (.ref a) (.ref (He.ga K c))
  kit : PySem.W.kitOne K (.ref (He.ga K c)) (.ref (He.ga K c)) = some true
theorem isoB_ok {K : PySem.W.Frag} {h : Heap} {mg : Str → Option Value} {c : Str} (Y : K.In h) (G : h.Ns mainGlobals mg) (q : isoB K c = true) : IsoT K mg c := by
  obtain ⟨q1, q⟩ := He.ba q
  obtain ⟨q2, q⟩ := He.ba q
  obtain ⟨q3, q⟩ := He.ba q
  obtain ⟨q4, q⟩ := He.ba q
  obtain ⟨q5, q⟩ := He.ba q
  obtain ⟨q6, q7⟩ := He.ba q
  exact ⟨He.glo_ok Y G q1, fun e => .ins e (He.cls_ok q2) (of_decide_eq_true q3) (of_decide_eq_true q4) (of_decide_eq_true q5) (of_decide_eq_true q6), of_decide_eq_true q7⟩
def isoF (c : Str) : CF := fun ps S => match ps with
  | [p, .fn y] => if y = c then (match derefH S p with
    | some (.ins d _, _) => if d = c then some (.bl true, S) else none
    | _ => none) else none
  | _ => none
section
variable {X : Cx} {W : WX} {c : Str} {pos : Pos}
theorem E.gcls {C : Addr} (hg : Gl X c) (hm : X.mg c = some (.ref C)) (hd : (c == ("__debug__" : Str)) = false := by decide) : E X W (.Name c pos) (eC (.fn c)) :=
  E.const (pe_glob (v := .ref C) hg hm rfl hd) fun H g L => by
    simp only [RV]
    exact ⟨C, hm, rfl⟩
theorem cf_iso (T : IsoT X.K X.mg c) : CallF X (rIsi X.K) (isoF c) := by
  intro H g S ps xs w S' Q rel rxs h k
  unfold isoF at h
  split at h
  · rename_i p y
    split at h
    · rename_i ey
      subst ey
      split at h
      · rename_i d ns ys ed
        split at h
        · rename_i e2
          subst e2
          cases h
          simp only [RVs] at rxs
          obtain ⟨u, r, rfl, ru, v, r2, rfl, rv, rfl⟩ := rxs
          obtain ⟨a, va, oa, rfl, h2, h3, h4⟩ := derefH_ok rel ru ed
          obtain ⟨C1, d1, m1, z1, rfl⟩ := h3
          simp only [RV] at rv
          obtain ⟨C2, m2, rfl⟩ := rv
          have i1 : some (Value.ref (He.ga X.K d)) = some (.ref C1) := T.gg.symm.trans m1
          have i2 : some (Value.ref (He.ga X.K d)) = some (.ref C2) := T.gg.symm.trans m2
          cases i1
          cases i2
          exact ⟨_, _, _, _, true, rfl, .own _, .base (T.ty h4), T.kit, k g H _ (Ext.refl rel) RV.bl⟩
        · cases h
      · cases h
    · cases h
  · cases h
end
end Pv
/-! Pv27: enumerate of a tuple. -/
namespace Pv
open PySem PySem.Spec PyProof.Rows L2
section
theorem made_enum {v : Value} {o : Obj} {Z : Heap → Prop} (B : Begins v o Z) :
    Meets (Builtin.«enumerate.__new__» ⟨[.type "enumerate", v], []⟩) (fun _ R s => Z s.heap ∧
      R (.ok (.ret (.ref (s.heap.push o).objs.size))) { s with heap := (s.heap.push o).push { cls := .type "enumerate", data := .fields #[.none, .bool false, .ref s.heap.objs.size, rawInt 0, .none, .none] } }) :=
  .of_wp fun prog w A R s ⟨z, k⟩ => by
    obtain ⟨hp, g, d, tk, os⟩ := s
    have hsub := sub_enumerate
    have goes : ∀ {A' : Around} {E : Value → Shared → Prop} {Q : Value → Shared → Prop}, Q (.ref hp.objs.size) ⟨hp.push o, g, d, tk, os⟩ → wpAny (model prog w) A' (pyIter v) Q E ⟨hp, g, d, tk, os⟩ := fun q => B.iter prog w _ _ ⟨hp, g, d, tk, os⟩ _ z q
    wp_walk using goes
    refine wpAny_stack_any fun _ => wpAny_pure ?_
    split
    · rename_i c _ _ _ _ _
      cases (c == Value.type "enumerate") <;> (wp_walk using goes; exact ⟨_, rfl, k⟩)
    · wp_walk using goes
      exact ⟨_, rfl, k⟩
theorem call_enumB {prog : Program} {w : World} {A : Around} {E : Value → Shared → Prop} {s : Shared} {v : Value} {o : Obj} {Z : Heap → Prop} {Q : Value → Shared → Prop} (B : Begins v o Z) (z : Z s.heap)
    (k : ∀ h', IsEnum h' (s.heap.objs.size + 1) s.heap.objs.size 0 .none → h'.get? s.heap.objs.size = some o → (∀ b u, s.heap.get? b = some u → h'.get? b = some u) → Q (.ref (s.heap.objs.size + 1)) { s with heap := h' }) :
    wpAny (model prog w) A (call (.type "enumerate") [v]) Q E s := by
  refine callType_new F.called_enumerate (by decide) (F.typeCall_enumerate_1 _) (F.newCall_enumerate_1 _) (fun obj => F.args_object_init_2 obj _) F.entry_enumerate_new (made_enum B) ⟨z, ?_⟩
  have hz : (s.heap.push o).objs.size = s.heap.objs.size + 1 := Heap.size_push ..
  show _ ∧ _
  rw [hz]
  have he : IsEnum ((s.heap.push o).push { cls := .type "enumerate", data := .fields #[.none, .bool false, .ref s.heap.objs.size, rawInt 0, .none, .none] }) (s.heap.objs.size + 1) s.heap.objs.size 0 .none := by
    have q := Heap.get?_push_size (s.heap.push o) (o := { cls := .type "enumerate", data := .fields #[.none, .bool false, .ref s.heap.objs.size, rawInt 0, .none, .none] }) rfl
    rw [hz] at q
    exact q
  exact ⟨⟨_, he, rfl⟩, k _ he (Heap.get?_push_of_some _ (Heap.get?_push_size _ B.free)) fun b u x => Heap.get?_push_of_some _ (Heap.get?_push_of_some _ x)⟩
/-- the tuple at a, its items in new pairs with their numbers -/
def IteT (K : PySem.W.Frag) (a : Addr) : It :=
  ⟨fun i H => ∃ (xs : List V) (x : V), SqT K H a xs ∧ xs[i]? = some x, fun i H v H' => ∃ T x, v = .ref T ∧ H T = none ∧ H' = upd H T (.tup [.int (i : Nat), x]) ∧ ∀ xs, SqT K H a xs → xs[i]? = some x, fun i H => ∃ xs : List V, SqT K H a xs ∧ xs.length ≤ i⟩
theorem turn_enT {P : Program} {w : World} {K : PySem.W.Frag} {elts : List Expr} {kk : Nat} {tpos : Pos} (a e it : Addr) :
    Turn P w K (.Tuple elts kk tpos) (IteT K a) [e, it] e (fun i h => (∃ old, IsEnum h e it ((i : Nat) : Int) old) ∧ h.IsTupleIter it a i ∧ e ≠ it ∧ e ≠ a ∧ a ≠ it) where
  mem := List.mem_cons_self
  obj := fun i h st b hb => by
    obtain ⟨⟨old, he⟩, ⟨o, ho, hc, hd⟩, _⟩ := st
    rcases List.mem_cons.mp hb with rfl | hb
    · exact ⟨_, he, fun v q => nomatch q⟩
    · rw [List.mem_singleton.mp hb]
      exact ⟨o, ho, fun v q => by rw [hd] at q; cases q⟩
  keep := fun i h h' st k => let ⟨⟨old, he⟩, hi, hr⟩ := st; ⟨⟨old, k e List.mem_cons_self _ he⟩, hi.at fun o q => k it (List.mem_cons_of_mem _ List.mem_cons_self) o q, hr⟩
  item := by
    intro X e1 e2 e3 hc i pins s σ H E I hf st hg
    subst e1 e2 e3
    obtain ⟨⟨old, he⟩, hit, n1, n2, n3⟩ := st
    obtain ⟨xs, x, hq, hx⟩ := hg
    obtain ⟨its, rv, p, hz⟩ := I.tuple hq
    obtain ⟨u, hu, ru⟩ := rv.get hx
    have l1 : e < s.heap.objs.size := Heap.lt_size he
    have l2 : it < s.heap.objs.size := by obtain ⟨_, q, _⟩ := hit; exact Heap.lt_size q
    have p : s.heap.IsTuple a its.toArray := p
    have hi : i < its.toArray.size := by
      have := (List.getElem?_eq_some_iff.mp hu).1
      simpa using this
    have D := Draws.tuple (prog := X.prog) (w := X.w) (A := X.A.in1) (I.ok.hd hc) it a n3 its.toArray
    refine wpAny_pyNext_enum_itemD D he ⟨hit, p⟩ hi n1 (by simp [n1, n2]) fun u' h' tk hP ho hS hT hsz hk => ?_
    obtain ⟨hit', p'⟩ := hS
    have eu : u' = u := by
      have : its.toArray[i]? = some u := by simpa using hu
      exact Option.some.inj (hP.symm.trans this)
    subst eu
    refine ⟨_, rfl, wpAny_letOwnedTupleGo_enum (s := { s with heap := h', toks := tk + 1 }) ho fun h'' he' sb => ?_⟩
    have hT2 : h''.get? s.heap.objs.size = some { cls := .type "tuple", data := .seq #[.int i tk, u'] } := (sb.2 _ (Nat.ne_of_gt l1)).trans hT
    have new : ObjOk X.prog X.w (upd H s.heap.objs.size (.tup [.int (i : Nat), x])) h'' s.heap.objs.size (.tup [.int (i : Nat), x]) :=
      ⟨by show 2 ≤ sizeLine; decide, [.int i tk, u'], .cons ⟨_, rfl⟩ (.cons ru .nil), ⟨_, hT2, rfl, _, rfl⟩⟩
    have kk : ∀ b ob, b ∉ [e, it] → s.heap.get? b = some ob → h''.get? b = some ob := fun b ob hb q => by
      have b1 : b ≠ e := fun z => hb (by rw [z]; exact List.mem_cons_self)
      have b2 : b ≠ it := fun z => hb (by rw [z]; exact List.mem_cons_of_mem _ List.mem_cons_self)
      exact (sb.2 b b1).trans (hk b ob b1 b2 q)
    have I1 : Inv X pins σ (upd H s.heap.objs.size (.tup [.int (i : Nat), x])) { s with heap := h'', toks := tk + 1 } := I.turnedNew (ch := [e, it]) kk hf (Nat.le_refl _) new
    refine ⟨.ref s.heap.objs.size, _, I1, rfl, ⟨_, x, rfl, I.hok.fresh (Nat.le_refl _), rfl, fun ys hy => by rw [I.tuple_inj hy hq]; exact hx⟩, ⟨⟨u', ?_⟩, hit'.at fun o q => (sb.2 it (Ne.symm n1)).trans q, n1, n2, n3⟩, fun b hb => ?_⟩
    · rw [show ((i + 1 : Nat) : Int) = (i : Int) + 1 from by omega]
      exact he'
    · have lb : b < s.heap.objs.size := by
        rcases List.mem_cons.mp hb with rfl | hb
        · exact l1
        · rw [List.mem_singleton.mp hb]; exact l2
      rw [upd_ne (Nat.ne_of_lt lb)]
      exact (hf b hb).1
  done := by
    intro X e1 e2 e3 hc i pins s σ H E I hf st hg
    subst e1 e2 e3
    obtain ⟨⟨old, he⟩, hit, n1, n2, n3⟩ := st
    obtain ⟨xs, hq, hx⟩ := hg
    obtain ⟨its, rv, p, hz⟩ := I.tuple hq
    have p : s.heap.IsTuple a its.toArray := p
    obtain ⟨f0, f1, f2, f3, f4, f5⟩ := hf it (List.mem_cons_of_mem _ List.mem_cons_self)
    have hl := rv.length
    have D : Draws X.prog X.w X.A.in1 it [it, a] i (fun _ _ => True) (fun j h => j = i ∧ h.IsTupleIter it a i ∧ h.IsTuple a its.toArray) :=
      { live := fun _ _ st => let ⟨_, ⟨o, ho, _⟩, _⟩ := st; ⟨o, ho⟩
        frame := fun _ _ _ st hk => ⟨st.1, st.2.1.at fun o e => hk it (by simp) o e, st.2.2.at fun o e => hk a (by simp) o e⟩
        item := fun j s Q E hi st hQ => by have := st.1; omega
        done := fun s Q E st hE => wpAny_nextOf_tuple_end (I.ok.hd hc) st.2.1 st.2.2 (by simp; omega) hE }
    exact wpAny_pyNext_enum_endD D he ⟨rfl, hit, p⟩ fun h' eb => ⟨rfl, I.turned (t' := s.toks) (fun b o hb q => eb b o hb q) f0 f1 f3 f4 f5⟩
  self := fun A i s Q E st h => let ⟨⟨_, he⟩, _⟩ := st; wpAny_pyIter_enum he h
def iEnumA (K : PySem.W.Frag) (ta : TA) : TI := fun σ H R => ta σ H fun vs H1 => ∃ a, vs = [.ref a] ∧ ((∃ xs, SqL K H1 a xs ∧ R (Ite K a) H1) ∨ ∃ xs, SqT K H1 a xs ∧ R (IteT K a) H1)
theorem pi_enumA {X : Cx} {e : Expr} {ta : TA} {p pos tpos : Pos} {elts : List Expr} {kk : Nat} (hg : Gl X "enumerate") (hm : X.mg "enumerate" = none) (ha : PA X [e] ta) (hs : starEach [e] X.env = [(false, eval e X.env)] := by rfl) :
    PI X (.Tuple elts kk tpos) (.Call (.Name "enumerate" p) [e] [] pos) (iEnumA X.K ta) := by
  refine ⟨fun pins s σ H R I h => Call_ (ld_blt I hg hm boot_enumerate (PyProof.Rows.callWith_type1 (thn (ha.run pos pins s σ H _ I h) fun us s1 ⟨vs, H1, I1, r1, a, ev, q⟩ => ?_) hs rfl))⟩
  subst ev
  cases r1 with
  | cons r rr =>
    cases rr
    cases r
    have apart : ∀ b ∈ [s1.heap.objs.size + 1, s1.heap.objs.size], s1.heap.objs.size ≤ b := fun b hb => by
      rcases List.mem_cons.mp hb with rfl | hb
      · exact Nat.le_succ _
      · rw [List.mem_singleton.mp hb]; exact Nat.le_refl _
    rcases q with ⟨xs, hq, q⟩ | ⟨xs, hq, q⟩
    · obtain ⟨its, rv, p', hz⟩ := I1.list hq
      refine call_enumerate_list p'.isList fun h' he hit hsz hk => wpAny_pyIter_enum he ?_
      exact ⟨s1.heap.objs.size + 1, [s1.heap.objs.size + 1, s1.heap.objs.size], _, _, H1, rfl, I1.kept (t' := s1.toks) hk, turn_enum a (s1.heap.objs.size + 1) s1.heap.objs.size, ⟨⟨.none, he⟩, hit, Nat.succ_ne_self _⟩, fun b hb => I1.fpOk (apart b hb) (I1.hok.fresh (apart b hb)), q⟩
    · obtain ⟨its, rv, p', hz⟩ := I1.tuple hq
      have p' : s1.heap.IsTuple a its.toArray := p'
      have la : a < s1.heap.objs.size := by obtain ⟨o, ho, _⟩ := p'; exact Heap.lt_size ho
      refine call_enumB (begins_tuple a its.toArray) p' fun h' he hit hk => wpAny_pyIter_enum he ?_
      exact ⟨s1.heap.objs.size + 1, [s1.heap.objs.size + 1, s1.heap.objs.size], _, _, H1, rfl, I1.kept (t' := s1.toks) hk, turn_enT a (s1.heap.objs.size + 1) s1.heap.objs.size, ⟨⟨.none, he⟩, ⟨_, hit, rfl, rfl⟩, Nat.succ_ne_self _, Nat.ne_of_gt (Nat.lt_succ_of_lt la), Nat.ne_of_lt la⟩, fun b hb => I1.fpOk (apart b hb) (I1.hok.fresh (apart b hb)), q⟩
end
def iED2 : PV → Option (Stp × Nat)
  | .con _ .lst xs => some (stL (enumF 0 xs), (enumF 0 xs).length + 1)
  | .con _ .tup xs => some (stL (enumF 0 xs), (enumF 0 xs).length + 1)
  | _ => none
def iE2 (t : EF) : IF := fun Γ S => (t Γ S).bind fun p S1 => match iED2 p with
  | some q => .ok q S1
  | none => .bad
section
variable {X : Cx} {W : WX} {H H' : Hp} {g g' : G} {S S' : Sto} {σ : L2.St} {Γ : Gam}
theorem jok_enumT {Y : Kx} {m : Md} {xs : List PV} {v : V} (rel : Rel Y H g S) (rv : RV Y H g S.length (.con m .tup xs) v) : ∃ a, v = .ref a ∧ (∃ vs, SqT Y.K H a vs) ∧ JOK Y (IteT Y.K a) (stL (enumF 0 xs)) H g S := by
  have rv0 := rv
  simp only [RV] at rv
  obtain ⟨a, vs, rfl, h2, h3⟩ := rv
  refine ⟨a, rfl, ⟨vs, h2.rdd.tup⟩, fun g' H' S' i e => ?_⟩
  have rv2 := RV.up rel e _ _ rv0
  simp only [RV] at rv2
  obtain ⟨b, ws, eb, q2, q3⟩ := rv2
  cases eb
  have sq := q2.rdd.tup
  refine ⟨fun p hp => ?_, fun hp => ?_⟩
  · have hp : (enumF 0 xs)[i]? = some p := Option.some.inj hp
    rw [enumF_get] at hp
    obtain ⟨x, hx, rfl⟩ := Option.map_eq_some_iff.mp hp
    obtain ⟨y, u1, u2⟩ := q3.get hx
    refine ⟨⟨ws, y, sq, u1⟩, fun u H2 w => ?_⟩
    obtain ⟨T, z, rfl, hT, rfl, hz⟩ := w
    have hz := hz ws sq
    rw [u1] at hz
    cases hz
    obtain ⟨k1, k2⟩ := newF_ok (k := .tup) (xs := [.int (0 + i : Nat), x]) (vs := [.int (i : Nat), y]) e.rel hT rfl (RVs.cons (by rw [Nat.zero_add]; exact RV.int) (RVs.cons u2 RVs.nil))
    exact ⟨_, k1, k2⟩
  · have hp : (enumF 0 xs)[i]? = none := Option.some.inj hp
    rw [enumF_get, Option.map_eq_none_iff] at hp
    exact ⟨ws, sq, by rw [← q3.len]; exact List.getElem?_eq_none_iff.mp hp⟩
theorem I.enum2 {e : Expr} {te : EF} {p pos tpos : Pos} {elts : List Expr} {kk : Nat} (hg : Gl X "enumerate") (hm : X.mg "enumerate" = none) (he : E X W e te) (hs : starEach [e] X.env = [(false, eval e X.env)] := by rfl) :
    I X W (.Tuple elts kk tpos) (.Call (.Name "enumerate" p) [e] [] pos) (iE2 te) := by
  refine ⟨_, pi_enumA hg hm (A.cons he A.nil hs) hs, fun σ H g Γ S Rr rel rg ok => ⟨g, Γ, S, rel, rg, ?_⟩⟩
  cases q : te Γ S with
  | bad => simp only [iE2, q, R.bind] at ok; exact ok.elim
  | ex c fs S1 =>
    simp only [iE2, q, R.bind] at ok
    simp only [aCons, q, R.bind]
    exact ok
  | ok v S1 =>
    simp only [iE2, q, R.bind] at ok
    simp only [aCons, aNil, q, R.bind]
    cases hv : iED2 v with
    | none => rw [hv] at ok; exact ok.elim
    | some z =>
      rw [hv] at ok
      intro g1 H1 e1 xs rxs
      simp only [RVs] at rxs
      obtain ⟨x, r, rfl, rx, rfl⟩ := rxs
      unfold iED2 at hv
      split at hv
      · cases hv
        obtain ⟨a, rfl, ⟨vs, hs⟩, hJ⟩ := jok_enum e1.rel rx
        exact ⟨a, rfl, Or.inl ⟨vs, hs, ok g1 H1 e1 _ hJ⟩⟩
      · cases hv
        obtain ⟨a, rfl, ⟨vs, hs⟩, hJ⟩ := jok_enumT e1.rel rx
        exact ⟨a, rfl, Or.inr ⟨vs, hs, ok g1 H1 e1 _ hJ⟩⟩
      · cases hv
def ieK2 (r : R PV) : R (Stp × Nat) := r.bind fun p S1 => match iED2 p with
  | some q => .ok q S1
  | none => .bad
@[simp] theorem iE2_eq {t : EF} : iE2 t Γ S = ieK2 (t Γ S) := (rfl)
@[simp] theorem ieK2_lst {m : Md} {xs : List PV} : ieK2 (.ok (.con m .lst xs) S) = .ok (stL (enumF 0 xs), (enumF 0 xs).length + 1) S := (rfl)
@[simp] theorem ieK2_tup {m : Md} {xs : List PV} : ieK2 (.ok (.con m .tup xs) S) = .ok (stL (enumF 0 xs), (enumF 0 xs).length + 1) S := (rfl)
end
end Pv
/-! Pv28: tuple(range(n)). -/
namespace Pv
open PySem PySem.Spec PyProof.Rows L2
end Pv
/-! Pv29: o[a:c] = a new list. -/
namespace Pv
open PySem PySem.Spec PyProof.Rows L2
end Pv
/-! Pv30: sets of ints made by a comprehension. The order of the steps in pe_sci is that of the library's list comprehension (HandS.Comp); its own lemmas are used throughout. -/
namespace Pv
open PySem PySem.Spec PyProof.Rows L2
section
variable {X : Cx}
/-- ints met so far, as a set: who is in, how many -/
def inS (ks : List Int) : Int → Bool := fun j => decide (j ∈ ks)
def cntS : List Int → Nat
  | [] => 0
  | k :: ks => if k ∈ ks then cntS ks else cntS ks + 1
/-- the set object at D of the ints ks (the last one put in stands first) -/
def SetI (w : World) (D : Addr) (ks : List Int) : HO := SetO w D (inS ks) (cntS ks)
theorem SetI.put (w : World) (D : Addr) (ks : List Int) (k : Int) : SetO w D (fun j => inS ks j || decide (j = k)) (if inS ks k = true then cntS ks else cntS ks + 1) = SetI w D (k :: ks) := by
  unfold SetI
  have e1 : (fun j => inS ks j || decide (j = k)) = inS (k :: ks) := by
    funext j
    unfold inS
    by_cases h1 : j = k <;> by_cases h2 : j ∈ ks <;> simp [h1, h2]
  have e2 : (if inS ks k = true then cntS ks else cntS ks + 1) = cntS (k :: ks) := by
    unfold inS
    rw [show cntS (k :: ks) = if k ∈ ks then cntS ks else cntS ks + 1 from rfl]
    simp
  rw [e1, e2]
end
end Pv
/-! Pv31: sorted of a set of numbers, of any size; set(a list of ii). Steps of the machine go as in the library's set(a tuple of ii) (HandS.SetFor), whose loop lemma (set_update_ints) is used. -/
namespace Pv
open PySem PySem.Spec PyProof.Rows L2
end Pv
/-! Pv32: sorted({.. for ..}) and sorted(set(a list)) of ints, as functions. -/
namespace Pv
open PySem PySem.Spec PyProof.Rows L2
/-! ### plain: strictly ascending lists -/
def insI (k : Int) : List Int → List Int
  | [] => [k]
  | j :: l => if k < j then k :: j :: l else if k = j then j :: l else j :: insI k l
def srtI (ks : List Int) : List Int := ks.foldr insI []
theorem mem_insI {k x : Int} : ∀ {l : List Int}, x ∈ insI k l ↔ x = k ∨ x ∈ l
  | [] => by simp [insI]
  | j :: l => by
    unfold insI
    split
    · simp
    · split
      · rename_i h; subst h; simp
      · rw [List.mem_cons, mem_insI (l := l), List.mem_cons]
        constructor
        · rintro (h | h | h) <;> simp [h]
        · rintro (h | h | h) <;> simp [h]
theorem mem_srtI {x : Int} : ∀ {ks : List Int}, x ∈ srtI ks ↔ x ∈ ks
  | [] => by simp [srtI]
  | k :: ks => by
    show x ∈ insI k (srtI ks) ↔ _
    rw [mem_insI, mem_srtI (ks := ks), List.mem_cons]
/-! ### sorted({elt for target in iter if ..}) -/
end Pv
/-! Pv33: set(a list of numbers), sorted(set(a list)). The machine's steps are those of a set made of a tuple (library: HandS.SetFor, whose loop lemma is used), here for a list. -/
namespace Pv
open PySem PySem.Spec PyProof.Rows L2
section
variable {X : Cx} {W : WX} {H H' H'' : Hp} {g g' g'' : G} {S S' S'' : Sto}
def rSetL (K : PySem.W.Frag) (w : World) : List V → Hp → VK → Prop := fun xs H Q => ∃ (a : Addr) (ns : List Int), xs = [V.ref a] ∧ SqL K H a (ns.map V.int) ∧ ns.length < 4000 ∧ ∀ p c, H p = none → Q (.ref p) (upd H p (SetO w p (inS ns) c))
end
end Pv
/-! Pv34: sorted(a list of numbers). -/
namespace Pv
open PySem PySem.Spec PyProof.Rows L2
end Pv
/-! Pv35: blocks within blocks. -/
namespace Pv
open PySem PySem.Spec PyProof.Rows L2
/-- the block of a comprehension, as far as its parts ask -/
structure Bk (X : Cx) (N : List Str) (sc : Scope) : Prop where
  hN : X.N = N
  sc : X.env.scope = sc
  calm : X.calm = true
section
variable {X : Cx} {W : WX} {N : List Str} {sc : Scope} {k : Nat} {pos : Pos}
theorem Body.bk (b : Body X W N sc k) {s : Shared} {H : Hp} {scope : Scope} {C : Addr} {cl : List (Str × Addr)} {fp : List Addr} : Bk (X.blk s H scope (compEnvC scope cl C X.env) fp) N (relS scope sc) := ⟨b.hN, blk_sc b.sc, b.calm⟩
theorem Bk.bk (b : Bk X N sc) {s : Shared} {H : Hp} {scope : Scope} {C : Addr} {cl : List (Str × Addr)} {fp : List Addr} : Bk (X.blk s H scope (compEnvC scope cl C X.env) fp) N (relS scope sc) := ⟨b.hN, blk_sc b.sc, b.calm⟩
theorem Bk.v (b : Bk X N sc) (i : Nat) (x : Str) (h : slC N sc i x = true) : E X W (.Name x pos) (eV i) := E.vr b.hN b.sc i x h
theorem Bk.gl (b : Bk X N sc) (x : Str) (h : sc.names.lookup x = some .globalImplicit) : Gl X x := gl_of b.sc x h
theorem Bk.blk (b : Bk X N sc) {scope : Scope} {own : List (Str × Nat)} (h : blkC N sc scope own = true) : BlkOk X.N X.env.scope scope own := by
  have b1 := b.hN
  have b2 := b.sc
  subst b1 b2
  exact blkOk_by h
end
end Pv
/-! Pv36: dicts as plain data: what stands at a key, whether one stands there, another put. -/
namespace Pv
open PySem PySem.Spec PyProof.Rows L2
/-! ### keys -/
/-- a key as a value; a key of several parts -/
def kP : Key → PV
  | .inl i => .int i
  | .inr z => .str z
def kTP (k : List Key) : PV := .con .own .tup (k.map kP)
section
variable {Y : Kx} {H H' : Hp} {g g' : G} {S S' : Sto} {L : Nat}
theorem Rdd.dk {ks : List Key} {vs : List V} {a : Addr} (h : Rdd Y H (.dk ks) vs a) : ks.length = vs.length ∧ Rd H a (.dK (ks.zip vs)) := by
  rcases h with ⟨o, ⟨h1, rfl⟩, h2⟩ | h
  · exact ⟨h1, h2⟩
  · exact h.elim
theorem Rdd.dt {ks : List (List Key)} {vs : List V} {a : Addr} (h : Rdd Y H (.dt ks) vs a) : ks.length = vs.length ∧ Rd H a (.dT (ks.zip vs)) := by
  rcases h with ⟨o, ⟨h1, rfl⟩, h2⟩ | h
  · exact ⟨h1, h2⟩
  · exact h.elim
/-! ### d[k], k in d -/
end
end Pv
/-! Pv37: dicts made, handed out (read alone from then on), walked, copied. -/
namespace Pv
open PySem PySem.Spec PyProof.Rows L2
section
variable {X : Cx} {W : WX} {a b c e o l tg : Expr} {ta tb tc to tk tv : EF} {pos pos' p : Pos} {N : List Str} {sc : Scope} {x : Str}
/-! ### a new dict -/
/-! ### a dict is handed out: from then on it is read alone -/
/-! ### for k in d, d handed out -/
theorem RVs.kPs {Y : Kx} {H : Hp} {g : G} {L : Nat} (k : List Key) : RVs Y H g L (k.map kP) (k.map kV) := by
  induction k with
  | nil => exact RVs.nil
  | cons i k ih =>
    cases i with
    | inl i => exact RVs.cons RV.int ih
    | inr z => exact RVs.cons RV.str ih
theorem RV.kP {Y : Kx} {H : Hp} {g : G} {L : Nat} (k : Key) : RV Y H g L (Pv.kP k) (kV k) := by
  cases k with
  | inl i => exact RV.int
  | inr z => exact RV.str
def iD (t : EF) : IF := fun Γ S => (t Γ S).bind fun q S1 => match q with
  | .con .out (.dk ks) _ => .ok (stL (ks.map kP), ks.length + 1) S1
  | .con .out (.dt ks) _ => .ok (stL (ks.map kTP), ks.length + 1) S1
  | _ => .bad
theorem zip_at {κ : Type} {ks : List κ} {vs : List V} (hl : ks.length = vs.length) {i : Nat} {k : κ} (h : ks[i]? = some k) : ∃ v, (ks.zip vs)[i]? = some (k, v) := by
  have h1 := (List.getElem?_eq_some_iff.mp h).1
  refine ⟨vs[i]'(by omega), ?_⟩
  rw [List.getElem?_zip_eq_some]
  exact ⟨h, List.getElem?_eq_getElem _⟩
theorem I.dict (hl : E X W l ta) : I X W tg l (iD ta) :=
  ⟨_, pi_keys hl, fun σ H g Γ S Rr rel rg ok => ⟨g, Γ, S, rel, rg, OKw.mono (OKw.bind ok) fun q S1 g1 H1 _ e1 h1 x rx => by
    split at h1
    · rename_i ks xs
      have rx0 := rx
      simp only [RV] at rx
      obtain ⟨d, vs, rfl, h2, h3⟩ := rx
      rcases h2 with ⟨ob, u, ⟨hk, rfl⟩, hd⟩ | h2
      · refine ⟨d, ob, rfl, Or.inl ⟨_, hd, OKw.ok e1.rel h1 _ fun g' H' S' i e2 => ?_⟩⟩
        have hd' := (Ext.up e1.rel e2).keep d _ hd fun z => False.elim z
        refine ⟨fun y hy => ?_, fun hy => ⟨hd', ?_⟩⟩
        · have hy := Option.some.inj hy
          rw [List.getElem?_map] at hy
          obtain ⟨k, q1, rfl⟩ := Option.map_eq_some_iff.mp hy
          obtain ⟨v, q2⟩ := zip_at hk q1
          refine ⟨⟨hd', (List.getElem?_eq_some_iff.mp q2).1⟩, fun z H2 ⟨z1, k', v', z2, z3⟩ => ?_⟩
          subst z1
          rw [q2] at z2
          cases z2
          exact ⟨g', Ext.refl e2.rel, z3 ▸ RV.kP k⟩
        · have hy := List.getElem?_eq_none_iff.mp (Option.some.inj hy)
          rw [List.length_map] at hy
          rw [List.length_zip, ← hk, Nat.min_self]
          exact hy
      · exact h2.elim
    · rename_i ks xs
      simp only [RV] at rx
      obtain ⟨d, vs, rfl, h2, h3⟩ := rx
      rcases h2 with ⟨ob, u, ⟨hk, rfl⟩, hd⟩ | h2
      · refine ⟨d, ob, rfl, Or.inr ⟨_, hd, OKw.ok e1.rel h1 _ fun g' H' S' i e2 => ?_⟩⟩
        have hd' := (Ext.up e1.rel e2).keep d _ hd fun z => False.elim z
        refine ⟨fun y hy => ?_, fun hy => ⟨hd', ?_⟩⟩
        · have hy := Option.some.inj hy
          rw [List.getElem?_map] at hy
          obtain ⟨k, q1, rfl⟩ := Option.map_eq_some_iff.mp hy
          obtain ⟨v, q2⟩ := zip_at hk q1
          refine ⟨⟨hd', (List.getElem?_eq_some_iff.mp q2).1⟩, fun z H2 ⟨z1, k', v', j, z2, z3, z4⟩ => ?_⟩
          subst z1
          rw [q2] at z2
          cases z2
          refine ⟨g', Ext.refl e2.rel, ?_⟩
          rw [z3]
          show RV X H2 g' S'.length (.con .own .tup (k.map Pv.kP)) (.ref j)
          simp only [RV]
          exact ⟨j, _, rfl, ⟨_, rfl, z4, fun z => False.elim z⟩, RVs.kPs k⟩
        · have hy := List.getElem?_eq_none_iff.mp (Option.some.inj hy)
          rw [List.length_map] at hy
          rw [List.length_zip, ← hk, Nat.min_self]
          exact hy
      · exact h2.elim
    · exact h1.elim⟩⟩
/-! ### dict(d) -/
end
end Pv
/-! Pv38: xs[::-1]. -/
namespace Pv
open PySem PySem.Spec PyProof.Rows L2
end Pv
/-! Pv39: calls where defaults fill up, calls with keywords; a dict that is read alone behind a statement; dicts of the same content. -/
namespace Pv
open PySem PySem.Spec PyProof.Rows L2
/-! ### calls whose last arguments are defaults, or said by keyword -/
end Pv
/-! Pv40: a call of a local name that holds a def. -/
namespace Pv
open PySem PySem.Spec PyProof.Rows L2
abbrev Tbl := List (Str × (List PV → RP))
def tblF : Tbl → Str → Option (List PV → RP)
  | [], _ => none
  | (y, f) :: l, x => if y = x then some f else tblF l x
section
variable {X : Cx} {W : WX} {e : Expr} {es : List Expr} {tr : AF} {pos p : Pos} {x : Str} {k i : Nat} {l : Tbl} {N : List Str} {sc : Scope} {j : Nat}
/-- the defs of a table may be called -/
def TblOk (X : Cx) (k : Nat) : Tbl → Prop
  | [] => True
  | (y, f) :: l => Cal X.prog X.w X.K X.mg X.base k y (spP X f) ∧ TblOk X k l
theorem TblOk.at : ∀ {l : Tbl} {y : Str} {f : List PV → RP}, TblOk X k l → tblF l y = some f → Cal X.prog X.w X.K X.mg X.base k y (spP X f)
  | [], _, _, _, e => nomatch e
  | (z, g) :: l, y, f, h, e => by
    unfold tblF at e
    split at e
    · rename_i hz
      cases e
      subst hz
      exact h.1
    · exact TblOk.at h.2 e
theorem Cal.up {P : Program} {w : World} {K : PySem.W.Frag} {mg : Str → Option Value} {base : Heap} {k k' : Nat} {x : Str} {sp : Sp} (c : Cal P w K mg base k x sp) (h : k ≤ k') : Cal P w K mg base k' x sp := by
  obtain ⟨f, fd, ps, F, h1, h2, h3⟩ := c.ex
  exact ⟨f, fd, ps, F.mono h, h1, h2, h3⟩
end
end Pv
/-! Pv41: instances that change: made, their methods; tuples joined; fields as targets. -/
namespace Pv
open PySem PySem.Spec PyProof.Rows L2
section
variable {X : Cx} {W : WX} {H H' : Hp} {g g' : G} {S S' : Sto}
/-! ### t + u of tuples -/
/-! ### an object that nothing here looks at -/
/-! ### an instance made, that may change -/
variable {k j m : Nat} {c x : Str} {p pos apos : Pos} {e o : Expr} {es : List Expr} {tr : AF} {to : EF} {f : List PV → Sto → R PV}
/-! ### methods -/
/-- the class c has the method m, which keeps f -/
structure MtW (P : Program) (w : World) (K : PySem.W.Frag) (mg : Str → Option Value) (base : Heap) (k : Nat) (c m : Str) (f : List PV → Sto → R PV) : Prop where
  ex : ∃ (C a : Addr), mg c = some (.ref C) ∧ Cls K C ∧ Meth K C m a ∧ FnR P w K mg base (L2.CX P w) k a (spW ⟨K, mg⟩ f)
theorem MtW.of {P : Program} {w : World} {K : PySem.W.Frag} {mg : Str → Option Value} {base : Heap} {k : Nat} {c m : Str} {f : List PV → Sto → R PV} {C a : Addr} {fd : FuncData} {ps : List Str} (hg : mg c = some (.ref C)) (hc : Cls K C) (hm : Meth K C m a) (F : FnOk P w K mg base (L2.CX P w) k a fd ps (spW ⟨K, mg⟩ f)) (hb : Binds K fd ps []) : MtW P w K mg base k c m f :=
  ⟨C, a, hg, hc, hm, (F.raw hb .nil).imp fun vs H Q E h => by rw [List.append_nil]; exact h⟩
end
/-! ### def m(self, *xs): how it is bound -/
end Pv
/-! Pv42: fields as targets, alone and in tuples. -/
namespace Pv
open PySem PySem.Spec PyProof.Rows L2
section
variable {X : Cx} {W : WX} {H H' : Hp} {g g' : G} {S S' : Sto} {o : Expr} {ta : TE} {f : Str} {pos : Pos} {to : EF} {es : List Expr}
/-- o.f = .. as a target -/
def gAttr (K : PySem.W.Frag) (ta : TE) (f : Str) : TG := fun v σ H Q => ta σ H fun x H1 => ∃ a C dx fs, x = .ref a ∧ H1 a = some (.ins C dx fs) ∧ Cls K C ∧ NoAttr K C f ∧ fs.length < 1000 ∧ Q σ (upd H1 a (.ins C dx (putF f v fs)))
theorem pg_attr (ho : PE X o ta) : PG X (.Attribute o f pos) (gAttr X.K ta f) := by
  refine ⟨fun pins s σ H v u Q inv r h => ?_⟩
  rw [arm_assign_Attribute]
  refine wpAny_bind (wpAny_holding (thn (ho.run pins s σ H _ inv h) fun ov s1 ⟨x, H1, I1, r1, a, C, dx, fs, ex, ea, c, n, l, q⟩ => ?_))
  subst ex
  obtain rfl : ov = Value.ref a := r1
  refine wpAny_bind (wpAny_standAt (wpAny_bind (wpAny_holding ?_)))
  exact setattr_ok I1 ea c n l r fun s3 I3 => wpAny_release ⟨σ, _, I3, q⟩
def gFldF (cs : List Str) (f : Str) (to : EF) : GF := fun v Γ S => (to Γ S).bind fun p S1 => match stF cs f v S1 p with
  | some S2 => .ok Γ S2
  | none => .bad
theorem Tg.fld {cs : List Str} (T : ∀ c ∈ cs, AttT X.K X.mg c f) (ho : E X W o to) : Tg X W (.Attribute o f pos) (gFldF cs f to) :=
  pg_imp (pg_attr ho) fun y σ H Q ⟨g, Γ, S, v, rel, rg, rv, ok⟩ => by
    refine ⟨g, Γ, S, rel, rg, OKw.mono (OKw.bind ok) fun p S2 g2 H2 _ e2 h2 x rx => ?_⟩
    have ry2 := RV.up rel e2 _ _ rv
    have rg2 := rg.up rel e2
    split at h2
    · rename_i S3 hs3
      unfold stF at hs3
      split at hs3
      · rename_i nn _
        split at hs3
        · rename_i c ns xs ej
          split at hs3
          · rename_i hc
            cases hs3
            have hn := join_some ej
            obtain ⟨u, vs, q1, q2, _, q4⟩ := e2.rel.ob nn _ _ hn
            obtain ⟨C, dx, hm, hl, rfl⟩ := q2
            have t := T c hc.1
            have : some (Value.ref (He.ga X.K c)) = some (.ref C) := t.gg.symm.trans hm
            cases this
            simp only [RV] at rx
            obtain ⟨ws, w1, w2, w3⟩ := putN_ok (f := f) ry2 hl q4
            refine ⟨g2.r nn, _, dx, _, rx.2, q1, t.cl, t.no, ?_, ?_⟩
            · rw [List.length_zip, ← hl]; omega
            · have e3 := set_ok e2.rel hn (k' := .ins c (putN f v ns xs).1) (o' := .ins (He.ga X.K c) dx (putF f y (ns.zip vs))) ⟨_, dx, hm, w2, by rw [w3]⟩ (by intro z; cases z) w1
              exact h2 _ _ e3 σ (rg2.up e2.rel e3)
          · cases hs3
        · cases hs3
      · cases hs3
    · exact h2.elim
end
end Pv
/-! Pv43: two names set at once. -/
namespace Pv
open PySem PySem.Spec PyProof.Rows L2
section
variable {X : Cx} {W : WX} {H H' : Hp} {g g' : G} {S S' : Sto} {D : Ends} {σ : L2.St} {N : List Str} {sc : Scope} {k : Nat}
/-- a, b = x, y with local names a, b -/
def sPar (i j : Nat) (tr : AF) : SF := fun Γ S => (tr Γ S).st Γ fun vs S1 => match vs with
  | [v, w] => .nx ((Γ.set i (some v)).set j (some w)) S1
  | _ => .bad
theorem par_imp {i j : Nat} {tr : AF} (h : liftS X W (sPar i j tr) D σ H) : tPar i j (liftA X W tr) D σ H := by
  obtain ⟨g, Γ, S, rel, rg, ok⟩ := h
  refine ⟨g, Γ, S, rel, rg, OKw.mono (OKs.st rel rg ok) fun vs S1 g1 H1 _ e1 h1 xs rxs => ?_⟩
  match vs, h1, rxs with
  | [v, w], h1, rxs =>
    simp only [RVs] at rxs
    obtain ⟨x, _, rfl, rx, y, _, rfl, ry, rfl⟩ := rxs
    exact ⟨x, y, rfl, h1 g1 H1 _ (Ext.refl e1.rel) (((rg.up rel e1).set rx).set ry)⟩
  | [], h1, _ => exact h1.elim
  | [_], h1, _ => exact h1.elim
  | _ :: _ :: _ :: _, h1, _ => exact h1.elim
theorem Body.par (b : Body X W N sc k) (nd : N.Nodup) {i j : Nat} {x y : Str} {px py pt pos : Pos} {kt k2 pt2} {e1 e2 : Expr} {tr : AF} (hd : (N[i]? = some x ∧ N[j]? = some y ∧ i ≠ j) ∧ sc.names.lookup x = some .local ∧ sc.names.lookup y = some .local) (ha : A X W [e1, e2] tr)
    (hw : ∀ env : Env, env.scope = sc → swappedStores [.Tuple [.Name x px, .Name y py] kt pt] (.Tuple [e1, e2] k2 pt2) env = pure (some [x, y]))
    (hs : swapsWithSole [.Tuple [.Name x px, .Name y py] kt pt] (.Tuple [e1, e2] k2 pt2) pos.line X.env = pure false := by rfl) :
    St X W (.Assign [.Tuple [.Name x px, .Name y py] kt pt] (.Tuple [e1, e2] k2 pt2) pos) (sPar i j tr) := by
  have b1 := b.hN
  have b2 := b.sc
  subst b1 b2
  exact ps_imp (ps_par b.calm nd hd.1.1 hd.1.2.1 hd.1.2.2 hd.2.1 hd.2.2 ha (hw _ rfl) hs) fun D σ H h => par_imp h
end
end Pv
/-! Pv44: list(range(n)), list(range(a, b)). -/
namespace Pv
open PySem PySem.Spec PyProof.Rows L2
end Pv
/-! Pv45: xs.pop(i). -/
namespace Pv
open PySem PySem.Spec PyProof.Rows L2
end Pv
/-! Dm: a dict whose keys are ints and tuples of one int: what a store of a new key and a look-up of an int do. -/
namespace Pv
open PySem PySem.Spec PyProof.Rows L2
end Pv
/-! Zp: list(zip(xs, ys)): the walk of a zip whose tuples are kept. -/
namespace Pv
open PySem PySem.Spec PyProof.Rows L2
section
variable {prog : Program} {w : World} {A : Around} {E : Value → Shared → Prop} {s : Shared}
/-- a zip that has given i pairs; d is none of them -/
def ZSt (d z TI TO i1 i2 l1 l2 : Addr) (xs ys : Array Value) (i : Nat) (h : Heap) : Prop :=
  PySem.IsPair h TI (.ref i1) (.ref i2) ∧ h.IsListIter i1 l1 i ∧ h.IsListIter i2 l2 i ∧ h.IsList l1 xs ∧ h.IsList l2 ys ∧
    ((PySem.IsZip h z TI TO .none ∧ ∃ a b, PySem.IsPair h TO a b) ∨ ∃ T f oT, PySem.IsZipHeld h z TI TO T f ∧ h.get? T = some oT ∧ T ≠ z ∧ T ≠ i1 ∧ T ≠ i2 ∧ T ≠ d)
theorem ZSt.keep {d z TI TO i1 i2 l1 l2 : Addr} {xs ys : Array Value} {i : Nat} {h h' : Heap} (st : ZSt d z TI TO i1 i2 l1 l2 xs ys i h) (hd : d ≠ z ∧ d ≠ TI ∧ d ≠ TO ∧ d ≠ i1 ∧ d ≠ i2 ∧ d ≠ l1 ∧ d ≠ l2) (k : ∀ b o, b ≠ d → h.get? b = some o → h'.get? b = some o) : ZSt d z TI TO i1 i2 l1 l2 xs ys i h' := by
  obtain ⟨d1, d2, d3, d4, d5, d6, d7⟩ := hd
  obtain ⟨hTI, h1, h2, hl1, hl2, hz⟩ := st
  refine ⟨k _ _ (Ne.symm d2) hTI, h1.at fun o e => k _ o (Ne.symm d4) e, h2.at fun o e => k _ o (Ne.symm d5) e, hl1.at fun o e => k _ o (Ne.symm d6) e, hl2.at fun o e => k _ o (Ne.symm d7) e, ?_⟩
  rcases hz with ⟨hz, a, b, hTO⟩ | ⟨T, f, oT, hz, hT, r1, r2, r3, r4⟩
  · exact .inl ⟨k _ _ (Ne.symm d1) hz, a, b, k _ _ (Ne.symm d3) hTO⟩
  · exact .inr ⟨T, f, oT, k _ _ (Ne.symm d1) hz, k _ _ r4 hT, r1, r2, r3, r4⟩
end
end Pv
/-! Zq: list(zip(xs, ys)) as one call: the list's own loop by induction over the pairs that are left. -/
namespace Pv
open PySem PySem.Spec PyProof.Rows L2
/-- the tuples made so far -/
def Made (h : Heap) (z TO i1 i2 S B : Addr) (xs ys : Array Value) (ps : List Addr) : Prop :=
  ps.Nodup ∧ ∀ (j : Nat) (p : Addr), ps[j]? = some p → B ≤ p ∧ p ≠ z ∧ p ≠ TO ∧ p ≠ i1 ∧ p ≠ i2 ∧ p ≠ S ∧ ∃ x y, xs[j]? = some x ∧ ys[j]? = some y ∧ PySem.IsPair h p x y
theorem Made.keep {h h' : Heap} {z TO i1 i2 S B : Addr} {xs ys : Array Value} {ps : List Addr} (m : Made h z TO i1 i2 S B xs ys ps) (k : ∀ c o, c ≠ z → c ≠ TO → c ≠ i1 → c ≠ i2 → c ≠ S → h.get? c = some o → h'.get? c = some o) : Made h' z TO i1 i2 S B xs ys ps := by
  refine ⟨m.1, fun j p e => ?_⟩
  obtain ⟨b0, b1, b2, b3, b4, b5, x, y, ex, ey, hp⟩ := m.2 j p e
  exact ⟨b0, b1, b2, b3, b4, b5, x, y, ex, ey, k p _ b1 b2 b3 b4 b5 hp⟩
theorem Made.add {h : Heap} {z TO i1 i2 S B p : Addr} {xs ys : Array Value} {ps : List Addr} {x y : Value} (m : Made h z TO i1 i2 S B xs ys ps) (hn : p ∉ ps) (hB : B ≤ p) (b1 : p ≠ z) (b2 : p ≠ TO) (b3 : p ≠ i1) (b4 : p ≠ i2) (b5 : p ≠ S)
    (ex : xs[ps.length]? = some x) (ey : ys[ps.length]? = some y) (hp : PySem.IsPair h p x y) : Made h z TO i1 i2 S B xs ys (ps ++ [p]) := by
  refine ⟨?_, fun j q e => ?_⟩
  · rw [List.nodup_append]
    refine ⟨m.1, by simp, fun a ha b hb => ?_⟩
    have : b = p := by simpa using hb
    subst this
    exact fun e => hn (e ▸ ha)
  · by_cases hj : j < ps.length
    · rw [List.getElem?_append_left hj] at e
      exact m.2 j q e
    · have hj2 := (List.getElem?_eq_some_iff.mp e).1
      simp only [List.length_append, List.length_cons, List.length_nil] at hj2
      have : j = ps.length := by omega
      subst this
      rw [List.getElem?_append_right (Nat.le_refl _)] at e
      simp only [Nat.sub_self, List.getElem?_cons_zero, Option.some.injEq] at e
      subst e
      exact ⟨hB, b1, b2, b3, b4, b5, x, y, ex, ey, hp⟩
end Pv
/-! Zr: several new objects laid at once; list(zip(a, b)) as an expression. -/
namespace Pv
open PySem PySem.Spec PyProof.Rows L2
/-- pairs of plain values -/
def pairsP (xs ys : List PV) : List PV := (xs.zip ys).map fun z => .con .own .tup [z.1, z.2]
end Pv
/-! Dm2: {x: i for i, x in enumerate(xs)} for ints and tuples of one int. -/
namespace Pv
open PySem PySem.Spec PyProof.Rows L2
end Pv
/-! Dm3: the same as expressions over plain values. -/
namespace Pv
open PySem PySem.Spec PyProof.Rows L2
end Pv
/-! Ix: xs.index(v), flat items (HandS.List mt_index). -/
namespace Pv
open PySem PySem.Spec PyProof.Rows L2
section
variable {X : Cx}
/-- the place of the first item that is v -/
def lindexF : MF := fun p ps S => match ps with
  | [v] => match deref S p with
    | some (.lst, ys) => if flatP v = true ∧ ys.all flatP = true ∧ ys.findIdx (fun y => eqP y v) < ys.length then some (.int (ys.findIdx fun y => eqP y v : Nat), S) else none
    | _ => none
  | _ => none
theorem mtf_lindex : MtF X (rIndex X.K) lindexF := by
  intro H g S p ps x xs w S' Q rel rx rxs h k
  unfold lindexF at h
  split at h
  · rename_i v
    simp only [RVs] at rxs
    obtain ⟨y, _, rfl, ry, rfl⟩ := rxs
    split at h
    · rename_i ys hd
      split at h
      · rename_i hc
        obtain ⟨f1, f2, f3⟩ := hc
        cases h
        obtain ⟨a, vs, rfl, h2, h3⟩ := deref_ok rel rx hd
        have fl := (inP_rv ry f1 h2 f2).1
        have hq := List.findIdx_getElem (w := f3)
        generalize hj : ys.findIdx (fun y => eqP y v) = j at *
        obtain ⟨z, hz, rz⟩ := h2.get (List.getElem?_eq_getElem f3)
        have fz : flatP ys[j] = true := List.all_eq_true.mp f2 _ (List.getElem_mem f3)
        refine ⟨a, vs, y, j, z, rfl, rfl, h3.lst, flat_rv ry f1, fl, hz, by rw [eqP_rv rz ry fz f1]; exact hq, fun m z' hm hz' => ?_, k g H _ (Ext.refl rel) RV.int⟩
        have hml : m < ys.length := by omega
        obtain ⟨z2, hz2, rz2⟩ := h2.get (List.getElem?_eq_getElem hml)
        rw [hz'] at hz2
        cases hz2
        have fz2 : flatP ys[m] = true := List.all_eq_true.mp f2 _ (List.getElem_mem hml)
        rw [eqP_rv rz2 ry fz2 f1]
        have := List.not_of_lt_findIdx (p := fun y => eqP y v) (xs := ys) (i := m) (by rw [hj]; exact hm)
        simpa using this
      · cases h
    · cases h
  · cases h
/-! ### a tuple == a text: False, whatever the tuple holds -/
end
end Pv
/-! Tx1: str(x), int(text), x.split(sep), f-strings of texts and ints. -/
namespace Pv
open PySem PySem.Spec PyProof.Rows L2
section
variable {X : Cx} {W : WX}
/-- str(x), a text or an int -/
def strF : CF := fun ps S => match ps with
  | [.int i] => if i.natAbs.log2 < 1920 then some (.str (toString i), S) else none
  | [.str a] => some (.str a, S)
  | _ => none
theorem cr_str : CallR X (.type "str") (fun xs H Q => (∃ i, xs = [.int i] ∧ i.natAbs.log2 < 1920 ∧ Q (.str (toString i)) H) ∨ ∃ a, xs = [.str a] ∧ Q (.str a) H) := CallR.or call_str_int SkE.call_str_str
theorem cf_str : CallF X (fun xs H Q => (∃ i, xs = [.int i] ∧ i.natAbs.log2 < 1920 ∧ Q (.str (toString i)) H) ∨ ∃ a, xs = [.str a] ∧ Q (.str a) H) strF := by
  intro H g S ps xs w S' Q rel rxs h k
  unfold strF at h
  split at h
  · split at h
    · rename_i hz
      cases h
      simp only [RVs, RV] at rxs
      obtain ⟨_, _, rfl, rfl, rfl⟩ := rxs
      exact Or.inl ⟨_, rfl, hz, k g H _ (Ext.refl rel) RV.str⟩
    · cases h
  · cases h
    simp only [RVs, RV] at rxs
    obtain ⟨_, _, rfl, rfl, rfl⟩ := rxs
    exact Or.inr ⟨_, rfl, k g H _ (Ext.refl rel) RV.str⟩
  · cases h
/-- int(x), a text too -/
def int2F : CF := fun ps S => match ps with
  | [.str a] => if a.length ≤ 640 then (PySem.intText? a).map fun n => (.int n, S) else none
  | ps => int1F ps S
def rInt2 : List V → Hp → VK → Prop := fun xs H Q => (∃ a n, xs = [.str a] ∧ PySem.intText? a = some n ∧ a.length ≤ 640 ∧ Q (.int n) H) ∨ ((∃ i, xs = [.int i] ∧ Q (.int i) H) ∨ ∃ k, xs = [.bl k] ∧ Q (.int (if k then 1 else 0)) H)
theorem cr_int2 : CallR X (.type "int") rInt2 := CallR.or call_int_str call_int1
theorem cf_int2 : CallF X rInt2 int2F := by
  intro H g S ps xs w S' Q rel rxs h k
  unfold int2F at h
  split at h
  · split at h
    · rename_i hz
      obtain ⟨n, hn, e⟩ := Option.map_eq_some_iff.mp h
      cases e
      simp only [RVs, RV] at rxs
      obtain ⟨_, _, rfl, rfl, rfl⟩ := rxs
      exact Or.inl ⟨_, n, rfl, hn, hz, k g H _ (Ext.refl rel) RV.int⟩
    · cases h
  · exact Or.inr (cf_int1 H g S _ xs w S' Q rel rxs h k)
/-- x.split(sep) -/
def splitF (mu : Bool) : MF := fun p ps S => match p, ps with
  | .str a, [.str b] => if (b.length == 0) = false ∧ a.length + 2 ≤ sizeLine then some (newP mu .lst ((Txt.split a b).map PV.str) S) else none
  | _, _ => none
theorem strsR {Y : Kx} {H : Hp} {g : G} {L : Nat} : ∀ (ys : List Str), RVs Y H g L (ys.map PV.str) (ys.map V.str)
  | [] => RVs.nil
  | y :: ys => RVs.cons RV.str (strsR ys)
theorem mtf_split {mu : Bool} : MtF X (fun x xs H Q => ∃ a b, x = .str a ∧ xs = [.str b] ∧ (b.length == 0) = false ∧ a.length + 2 ≤ sizeLine ∧ rNewStrs (Txt.split a b) H Q) (splitF mu) := by
  intro H g S p ps x xs w S' Q rel rx rxs h k
  unfold splitF at h
  split at h
  · split at h
    · rename_i hz
      simp only [RVs, RV] at rxs
      obtain ⟨_, _, rfl, rfl, rfl⟩ := rxs
      refine ⟨_, _, rx.str_inv, rfl, hz.1, hz.2, fun l hl => ?_⟩
      obtain ⟨g', z1, z2⟩ := new_ok (m := mu) rel hl (k := .lst) (o := .lst _) rfl (by decide) (strsR _)
      simp only [Option.some.injEq] at h
      rw [h] at z1 z2
      exact k g' _ _ z1 z2
    · cases h
  · cases h
/-- {x} in an f-string -/
def eFmt (t : EF) : EF := fun Γ S => (t Γ S).bind fun v S1 => match v with
  | .str y => if y.length ≤ sizeLine then .ok (.str y) S1 else .bad
  | .int i => if i.natAbs.log2 < 1920 then .ok (.str (toString i)) S1 else .bad
  | _ => .bad
theorem E.fmt {e : Expr} {t : EF} {pos : Pos} (he : E X W e t) : E X W (.FormattedValue e (-1) none pos) (eFmt t) :=
  pe_imp (pe_fmt he) fun σ H Q ⟨g, Γ, S, rel, rg, ok⟩ => by
    refine ⟨g, Γ, S, rel, rg, OKw.mono (OKw.bind ok) fun v S1 g1 H1 _ e1 h1 x rx => ?_⟩
    cases v with
    | str y =>
      have h1 : OKw X W σ H1 g1 S1 (if y.length ≤ sizeLine then R.ok (PV.str y) S1 else .bad) _ := h1
      split at h1
      · rename_i hz
        exact Or.inl ⟨y, rx.str_inv, hz, OKw.ok e1.rel h1 _ RV.str⟩
      · exact h1.elim
    | int i =>
      have h1 : OKw X W σ H1 g1 S1 (if i.natAbs.log2 < 1920 then R.ok (PV.str (toString i)) S1 else .bad) _ := h1
      split at h1
      · rename_i hz
        exact Or.inr ⟨i, rx.int_inv, hz, OKw.ok e1.rel h1 _ RV.str⟩
      · exact h1.elim
    | _ => exact h1.elim
inductive Js (X : Cx) (W : WX) : List Expr → List EF → Prop where
  | nil : Js X W [] []
  | cons {e : Expr} {t : EF} {es : List Expr} {ts : List EF} (h : E X W e t) (r : Js X W es ts) : Js X W (e :: es) (t :: ts)
def eJs : List EF → Str → EF
  | [], acc => fun _ S => .ok (.str acc) S
  | t :: ts, acc => fun Γ S => (t Γ S).bind fun v S1 => match v with
    | .str y => if (acc ++ y).length ≤ sizeLine then eJs ts (acc ++ y) Γ S1 else .bad
    | _ => .bad
def eJoin (ts : List EF) : EF := eJs ts Str.empty
theorem Js.pj {es : List Expr} {ts : List EF} (h : Js X W es ts) : PJ X es (ts.map (lift X W)) := by
  induction h with
  | nil => exact .nil
  | cons h _ ih => exact .cons h ih
theorem js_imp : ∀ (ts : List EF) (acc : Str) {σ : L2.St} {H : Hp} {g : G} {Γ : Gam} {S : Sto} {Q : VK}, Rel X H g S → RG X H g S.length Γ σ →
    OKw X W σ H g S (eJs ts acc Γ S) (fun v S' g' H' => ∀ x, RV X H' g' S'.length v x → Q x H') → tJs (ts.map (lift X W)) acc σ H fun out H1 => Q (.str out) H1
  | [], acc, σ, H, g, Γ, S, Q, rel, rg, h => OKw.ok rel h _ RV.str
  | t :: ts, acc, σ, H, g, Γ, S, Q, rel, rg, h => by
    refine ⟨g, Γ, S, rel, rg, OKw.mono (OKw.bind h) fun v S1 g1 H1 _ e1 h1 x rx => ?_⟩
    cases v with
    | str y =>
      have h1 : OKw X W σ H1 g1 S1 (if (acc ++ y).length ≤ sizeLine then eJs ts (acc ++ y) Γ S1 else .bad) _ := h1
      split at h1
      · rename_i hz
        exact ⟨y, rx.str_inv, hz, js_imp ts (acc ++ y) e1.rel (rg.up rel e1) h1⟩
      · exact h1.elim
    | _ => exact h1.elim
theorem E.joined {v1 v2 : Expr} {rest : List Expr} {ts : List EF} {pos : Pos} (h : Js X W (v1 :: v2 :: rest) ts) : E X W (.JoinedStr (v1 :: v2 :: rest) pos) (eJoin ts) :=
  pe_imp (pe_joined h.pj) fun σ H Q ⟨g, Γ, S, rel, rg, ok⟩ => js_imp ts Str.empty rel rg ok
end
end Pv
/-! Tx2: for x, y in zip(a, b), tuples that stand still. -/
namespace Pv
open PySem PySem.Spec PyProof.Rows L2
def iZD2 : PV → PV → Option (Stp × Nat)
  | .con _ .tup xs, .con _ .tup ys => some (stL (pairsP xs ys), (pairsP xs ys).length + 1)
  | _, _ => none
def iZ2 (t : AF) : IF := fun Γ S => (t Γ S).bind fun ps S1 => match ps with
  | [p, q] => match iZD2 p q with
    | some z => .ok z S1
    | none => .bad
  | _ => .bad
theorem pairsP_get {xs ys : List PV} {i : Nat} {p : PV} (h : (pairsP xs ys)[i]? = some p) : ∃ x y, xs[i]? = some x ∧ ys[i]? = some y ∧ p = .con .own .tup [x, y] := by
  unfold pairsP at h
  rw [List.getElem?_map] at h
  obtain ⟨⟨x, y⟩, h1, rfl⟩ := Option.map_eq_some_iff.mp h
  obtain ⟨a, b⟩ := List.getElem?_zip_eq_some.mp h1
  exact ⟨x, y, a, b, rfl⟩
theorem pairsP_end {xs ys : List PV} {i : Nat} (h : (pairsP xs ys)[i]? = none) : xs.length ≤ i ∨ ys.length ≤ i := by
  have := List.getElem?_eq_none_iff.mp h
  unfold pairsP at this
  rw [List.length_map, List.length_zip] at this
  omega
section
variable {X : Cx} {W : WX} {H H' : Hp} {g g' : G} {S S' : Sto} {σ : L2.St} {Γ : Gam}
theorem jok_zipT {Y : Kx} {m m2 : Md} {xs ys : List PV} {v u : V} (rel : Rel Y H g S) (rv : RV Y H g S.length (.con m .tup xs) v) (ru : RV Y H g S.length (.con m2 .tup ys) u) :
    ∃ a b vs us, v = .ref a ∧ u = .ref b ∧ SqT Y.K H a vs ∧ SqT Y.K H b us ∧ JOK Y (RZ.ItzT Y.K a b) (stL (pairsP xs ys)) H g S := by
  have rv0 := rv
  have ru0 := ru
  simp only [RV] at rv ru
  obtain ⟨a, vs, rfl, h2, h3⟩ := rv
  obtain ⟨b, us, rfl, k2, k3⟩ := ru
  refine ⟨a, b, vs, us, rfl, rfl, h2.rdd.tup, k2.rdd.tup, fun g' H' S' i e => ?_⟩
  have rv2 := RV.up rel e _ _ rv0
  have ru2 := RV.up rel e _ _ ru0
  simp only [RV] at rv2 ru2
  obtain ⟨a', ws, ea, q2, q3⟩ := rv2
  cases ea
  obtain ⟨b', zs, eb, p2, p3⟩ := ru2
  cases eb
  have sq := q2.rdd.tup
  have sp := p2.rdd.tup
  refine ⟨fun p hp => ?_, fun hp => ?_⟩
  · obtain ⟨x, y, hx, hy, rfl⟩ := pairsP_get (Option.some.inj hp)
    obtain ⟨x1, u1, u2⟩ := q3.get hx
    obtain ⟨y1, w1, w2⟩ := p3.get hy
    refine ⟨⟨ws, zs, x1, y1, sq, sp, u1, w1⟩, fun u H2 w => ?_⟩
    obtain ⟨T, x3, y3, rfl, hT, rfl, f1, f2⟩ := w
    have f1 := f1 ws sq
    have f2 := f2 zs sp
    rw [u1] at f1
    rw [w1] at f2
    cases f1
    cases f2
    obtain ⟨k1, k2⟩ := newF_ok (k := .tup) (xs := [x, y]) (vs := [x1, y1]) e.rel hT rfl (RVs.cons u2 (RVs.cons w2 RVs.nil))
    exact ⟨_, k1, k2⟩
  · exact ⟨ws, zs, sq, sp, by rw [← q3.len, ← p3.len]; exact pairsP_end (Option.some.inj hp)⟩
theorem I.zip2 {e e2 : Expr} {ta : AF} {p pos tpos : Pos} {elts : List Expr} {kk : Nat} (hg : Gl X "zip") (hm : X.mg "zip" = none) (ha : A X W [e, e2] ta)
    (hs : starEach [e, e2] X.env = (false, eval e X.env) :: starEach [e2] X.env := by rfl) (hpl : (backTo pos (starEach [e2] X.env)).any (·.1) = false := by rfl) :
    I X W (.Tuple elts kk tpos) (.Call (.Name "zip" p) [e, e2] [] pos) (iZ2 ta) := by
  refine ⟨_, RZ.pi_zipA hg hm ha hs hpl, fun σ H g Γ S Rr rel rg ok => ⟨g, Γ, S, rel, rg, ?_⟩⟩
  cases q : ta Γ S with
  | bad => simp only [iZ2, q, R.bind] at ok; exact ok.elim
  | ex c fs S1 =>
    simp only [iZ2, q, R.bind] at ok
    exact ok
  | ok ps S1 =>
    simp only [iZ2, q, R.bind] at ok
    intro g1 H1 e1 xs rxs
    split at ok
    · rename_i p1 p2
      simp only [RVs] at rxs
      obtain ⟨x, r, rfl, rx, y, r2, rfl, ry, rfl⟩ := rxs
      unfold iZD2 at ok
      split at ok
      · rename_i z hz
        split at hz
        · rename_i m xs m2 ys
          cases hz
          obtain ⟨a, b, vs, us, rfl, rfl, s1, s2, j⟩ := jok_zipT e1.rel rx ry
          have ok := ok g1 H1 e1
          exact ⟨a, b, vs, us, rfl, Or.inr ⟨s1, s2, ok _ j⟩⟩
        · cases hz
      · exact ok.elim
    · exact ok.elim
end
end Pv
/-! Tx3: an own error with two fields, raised. -/
namespace Pv
open PySem PySem.Spec PyProof.Rows L2
variable {X : Cx} {W : WX} {K : PySem.W.Frag} {mg : Str → Option Value}
/-- what __init__ leaves: its two arguments as fields -/
def spIni2 (C : Addr) (f h : Str) : Sp := fun vs H Q _ => ∃ a v w, vs = [.ref a, v, w] ∧ H a = some (exo a C none) ∧ ∀ d, H d = none → d ≠ a → Q .non (upd (upd (upd H d (exd d [(f, v)])) a (exo a C (some d))) d (exd d [(h, w), (f, v)]))
structure ExcI2 (P : Program) (w : World) (K : PySem.W.Frag) (mg : Str → Option Value) (base : Heap) (x f h : Str) (C : Addr) : Prop where
  g : mg x = some (.ref C)
  o : OexC K C
  i : ∃ fI fd ps, PySem.W.findIn K (.ref C) "__init__" = some (some (.ref fI)) ∧ PySem.W.typeIn K (.ref fI) = some (.type "function") ∧ FnOk P w K mg base CX0 1 fI fd ps (spIni2 C f h) ∧ Binds K fd ps []
def sRaise2 (x f h : Str) (tr : AF) : SF := fun Γ S => (tr Γ S).st Γ fun vs S1 => match vs with
  | [v, w] => .ex x [(h, w), (f, v)] Γ S1
  | _ => .bad
theorem St.raise2 {x f h : Str} {C : Addr} {k : Nat} {e e2 : Expr} {tr : AF} {p pos pos2 : Pos} (hc : X.calm = true) (tk : Takes X W) (T : ExcI2 X.prog X.w X.K X.mg X.base x f h C) (hr : Room k X.A) (hk : 2 ≤ k) (hg : Gl X x) (ha : A X W [e, e2] tr) (hdb : (x == ("__debug__" : Str)) = false := by decide)
    (hs : starEach (e :: [e2]) X.env = (false, eval e X.env) :: starEach [e2] X.env := by rfl) (hpl : (backTo pos (starEach [e2] X.env)).any (·.1) = false := by rfl) :
    St X W (.Raise (some (.Call (.Name x p) [e, e2] [] pos)) none pos2) (sRaise2 x f h tr) := by
  obtain ⟨fI, fd, ps, i1, i2, F1, hb⟩ := T.i
  refine ps_imp (ps_raise hc tk (pmk_oex T.o i1 i2 F1 (hr.mono hk) hb (.nil) pass0 hg T.g ha hdb hs hpl)) fun D σ H q => ?_
  obtain ⟨g, Γ, S, rel, rg, ok⟩ := q
  refine ⟨g, Γ, S, rel, rg, OKw.mono (OKs.st rel rg ok) fun vs S1 g1 H1 _ e1 h1 xs rx => ?_⟩
  split at h1
  · rename_i v w
    simp only [RVs] at rx
    obtain ⟨x1, _, rfl, h2, x2, _, rfl, h3, rfl⟩ := rx
    refine ⟨by simp, fun a ha => ⟨a, x1, x2, rfl, upd_same, fun d hd hda => ⟨rfl, d, [(h, x2), (f, x1)], ?_, upd_same, ?_, ?_⟩⟩⟩
    · rw [upd_ne (fun z => hda z.symm), upd_same]
    · rw [upd_ne hda] at hd; exact hd
    · have hd1 : H1 d = none := by rw [upd_ne hda] at hd; exact hd
      have eH : upd (del (upd (upd (upd (upd H1 a (exo a C none)) d (exd d [(f, x1)])) a (exo a C (some d))) d (exd d [(h, x2), (f, x1)])) a) d (.xd [(h, x2), (f, x1)]) = upd H1 d (.xd [(h, x2), (f, x1)]) := by
        funext b
        by_cases hb : b = d
        · subst hb; rw [upd_same, upd_same]
        · rw [upd_ne hb, upd_ne hb]
          by_cases hba : b = a
          · subst hba; rw [del_same, ha]
          · rw [del_ne hba, upd_ne hb, upd_ne hba, upd_ne hb, upd_ne hba]
      rw [eH]
      have e2 : Ext X H1 g1 S1 (upd H1 d (.xd [(h, x2), (f, x1)])) g1 S1 := Ext.laid e1.rel hd1
      refine h1 g1 _ σ (.ref C) (some d) e2 ((rg.up rel e1).up e1.rel e2) ⟨T.g, Or.inr ⟨d, [x2, x1], rfl, upd_same, ?_⟩⟩
      simp only [List.map_cons, List.map_nil, RVs]
      exact ⟨x2, [x1], rfl, RV.up e1.rel e2 _ _ h3, x1, [], rfl, RV.up e1.rel e2 _ _ h2, rfl⟩
  · exact h1.elim
/-- the def __init__ that keeps its two arguments -/
theorem ini2_ok {P : Program} {w : World} {base : Heap} {qual : Str} {st : Stmt} {dvs : List V} {kws : List (Str × V)} {fI : Addr} {fd : FuncData} {f h : Str} {C : Addr} {p1 p2 p3 p4 q1 q2 q3 q4 : Pos}
    (F : FunD K "__init__" qual (defArgs st) (defBody st) (defScope st) dvs kws fI fd) (S : FnScope ["self", f, h] ["self", f, h] (defScope st)) (hb : defBody st = [.Assign [.Attribute (.Name "self" p1) f p2] (.Name f p3) p4, .Assign [.Attribute (.Name "self" q1) h q2] (.Name h q3) q4])
    (l1 : slC ["self", f, h] (defScope st) 0 "self" = true) (l2 : slC ["self", f, h] (defScope st) 1 f = true) (l3 : slC ["self", f, h] (defScope st) 2 h = true) (o : OexC K C) (no : PySem.W.findIn K (.ref C) f = some none) (no2 : PySem.W.findIn K (.ref C) h = some none) :
    FnOk P w K mg base CX0 1 fI fd ["self", f, h] (spIni2 C f h) := by
  refine F.ok S (fun vs H Q E ⟨a, x, y, e, _⟩ => by rw [e]; rfl) (fun cdv A outer s H vs Q E hr ⟨a, x, y, e, h1, h2⟩ => ?_)
  subst e
  refine ⟨tSeq (tOst K f (tVar 0) (tVar 1)) (tOst K h (tVar 0) (tVar 2)), ?_, ?_⟩
  · rw [hb]
    obtain ⟨a1, a2, a3, a4⟩ := slC_ok l1
    obtain ⟨b1, b2, b3, b4⟩ := slC_ok l2
    obtain ⟨c1, c2, c3, c4⟩ := slC_ok l3
    exact pss_cons (ps_ost (pe_var (i := 0) a1 a2 a3 a4) (pe_var (i := 1) b1 b2 b3 b4)) (pss_one (ps_ost (pe_var (i := 0) a1 a2 a3 a4) (pe_var (i := 2) c1 c2 c3 c4)))
  · refine ⟨_, rfl, _, rfl, a, C, rfl, o, no, Or.inl ⟨h1, fun dx k1 k2 => ?_⟩⟩
    refine ⟨_, rfl, _, rfl, a, C, rfl, o, no2, Or.inr ⟨dx, [(f, x)], ?_, ?_, by simp, h2 dx k1 k2⟩⟩
    · rw [upd_same]
    · rw [upd_ne k2, upd_same]
theorem OexF.ok2 {P : Program} {w : World} {base : Heap} {x f h qual : Str} (T : OexF K mg x f) (T2 : OexF K mg x h) {st : Stmt} {dvs : List V} {kws : List (Str × V)} {fd : FuncData} {p1 p2 p3 p4 q1 q2 q3 q4 : Pos}
    (F : FunD K "__init__" qual (defArgs st) (defBody st) (defScope st) dvs kws (He.ma K (He.ga K x) "__init__") fd) (bn : Binds K fd ["self", f, h] []) (S : FnScope ["self", f, h] ["self", f, h] (defScope st)) (hb : defBody st = [.Assign [.Attribute (.Name "self" p1) f p2] (.Name f p3) p4, .Assign [.Attribute (.Name "self" q1) h q2] (.Name h q3) q4])
    (l1 : slC ["self", f, h] (defScope st) 0 "self" = true) (l2 : slC ["self", f, h] (defScope st) 1 f = true) (l3 : slC ["self", f, h] (defScope st) 2 h = true) : ExcI2 P w K mg base x f h (He.ga K x) :=
  ⟨T.g, T.o, _, fd, ["self", f, h], T.i, T.t, ini2_ok F S hb l1 l2 l3 T.o T.no T2.no, bn⟩
end Pv
namespace Law
open PySem PySem.Spec PyProof.Rows L2 Pv
def c_LETTERS : Str := "abcdefghijklmnopqrstuvwxyz"
def c_PLAIN : List Str := ["pop", "copy", "add", "sub", "div", "less", "not", "print", "skip", "end"]
def c_NAMED : List Str := ["load", "store", "fail"]
def c_JUMPS : List Str := ["jump", "jumpif"]
def c_LAST : List Str := ["fail", "jump", "end"]
def c_REMOVED : List (Str × Int) := [("store", 1), ("pop", 1), ("copy", 1), ("add", 2), ("sub", 2), ("div", 2), ("less", 2), ("not", 1), ("print", 1), ("jumpif", 1)]
def c_PUSHED : List (Str × Int) := [("const", 1), ("load", 1), ("copy", 2), ("add", 1), ("sub", 1), ("div", 1), ("less", 1), ("not", 1)]
def c_GREATEST : Int := 1000000000000000000000000000000
def c_LINES : Int := 1000000
def c_MOST : Int := 200
def body_in_range : SF := sRet (eAnd (eCall isiF (aCons (eV 0) (aCons (eC (.ty "int")) aNil))) (eAnd (eNot (eCall isiF (aCons (eV 0) (aCons (eC (.ty "bool")) aNil)))) (eChain leF leF (eV 1) (eV 0) (eV 2))))
def f_in_range : List PV → RP := runP 3 3 body_in_range
def l0_is_word : SF := sIf (bE (eOp ninF (eV 1) (eC (.str c_LETTERS)))) (sRet (eC (.bl false))) (sNext)
def r1_is_word : SF := sRet (eC (.bl true))
def r2_is_word : SF := sSeq (sFor (iAny (eV 0)) (gN 1) (l0_is_word)) (r1_is_word)
def body_is_word : SF := sSeq (sIf (bOr (bNot (bT (eCall isiF (aCons (eV 0) (aCons (eC (.ty "str")) aNil))))) (bNot (bE (eChain leF leF (eC (.int 1)) (eCall lenF (aCons (eV 0) aNil)) (eC (.int 8)))))) (sRet (eC (.bl false))) (sNext)) (r2_is_word)
def f_is_word : List PV → RP := runP 1 2 body_is_word
def r0_fits_form : SF := sRet (eAnd (eOp inF (eOp ixF (eV 0) (eC (.int 0))) (eC (.con .out .tup (c_JUMPS.map PV.str)))) (eAnd (eCall isiF (aCons (eOp ixF (eV 0) (eC (.int 1))) (aCons (eC (.ty "int")) aNil))) (eAnd (eNot (eCall isiF (aCons (eOp ixF (eV 0) (eC (.int 1))) (aCons (eC (.ty "bool")) aNil)))) (eOp geF (eOp ixF (eV 0) (eC (.int 1))) (eC (.int 0))))))
def r1_fits_form : SF := sSeq (sIf (bE (eOp inF (eOp ixF (eV 0) (eC (.int 0))) (eC (.con .out .tup (c_NAMED.map PV.str))))) (sRet (eCallP f_is_word (aCons (eOp ixF (eV 0) (eC (.int 1))) aNil))) (sNext)) (r0_fits_form)
def r2_fits_form : SF := sSeq (sIf (bE (eOp eqF (eOp ixF (eV 0) (eC (.int 0))) (eC (.str "const")))) (sRet (eCallP f_in_range (aCons (eOp ixF (eV 0) (eC (.int 1))) (aCons (eNeg (eC (.int c_GREATEST))) (aCons (eC (.int c_GREATEST)) aNil))))) (sNext)) (r1_fits_form)
def r3_fits_form : SF := sSeq (sIf (bE (eOp eqF (eCall lenF (aCons (eV 0) aNil)) (eC (.int 1)))) (sRet (eOp inF (eOp ixF (eV 0) (eC (.int 0))) (eC (.con .out .tup (c_PLAIN.map PV.str))))) (sNext)) (r2_fits_form)
def body_fits_form : SF := sSeq (sIf (bOr (bNot (bT (eCall isiF (aCons (eV 0) (aCons (eC (.ty "tuple")) aNil))))) (bOr (bNot (bE (eChain leF leF (eC (.int 1)) (eCall lenF (aCons (eV 0) aNil)) (eC (.int 2))))) (bNot (bT (eCall isiF (aCons (eOp ixF (eV 0) (eC (.int 0))) (aCons (eC (.ty "str")) aNil))))))) (sRet (eC (.bl false))) (sNext)) (r3_fits_form)
def f_fits_form : List PV → RP := runP 1 1 body_fits_form
def r0_is_handler : SF := sRet (eAnd (eCallP f_in_range (aCons (eV 4) (aCons (eC (.int 0)) (aCons (eOp subF (eV 1) (eC (.int 1))) aNil)))) (eAnd (eCallP f_in_range (aCons (eV 5) (aCons (eC (.int 0)) (aCons (eC (.int c_MOST)) aNil)))) (eOr (eU (fun p => .bl (isNP p)) (eV 6)) (eCallP f_is_word (aCons (eV 6) aNil)))))
def r1_is_handler : SF := sSeq (sAsg (eV 0) (gU [2, 3, 4, 5, 6])) (sSeq (sIf (bOr (bNot (bT (eCallP f_in_range (aCons (eV 2) (aCons (eC (.int 0)) (aCons (eOp subF (eV 1) (eC (.int 1))) aNil)))))) (bOr (bNot (bT (eCallP f_in_range (aCons (eV 3) (aCons (eC (.int 1)) (aCons (eV 1) aNil)))))) (bE (eOp geF (eV 2) (eV 3))))) (sRet (eC (.bl false))) (sNext)) (r0_is_handler))
def body_is_handler : SF := sSeq (sIf (bOr (bNot (bT (eCall isiF (aCons (eV 0) (aCons (eC (.ty "tuple")) aNil))))) (bE (eOp neF (eCall lenF (aCons (eV 0) aNil)) (eC (.int 5))))) (sRet (eC (.bl false))) (sNext)) (r1_is_handler)
def f_is_handler : List PV → RP := runP 2 7 body_is_handler
def r0_raised_kind : SF := sRet (eC .non)
def r1_raised_kind : SF := sSeq (sIf (bE (eOp eqF (eOp ixF (eV 0) (eC (.int 0))) (eC (.str "fail")))) (sRet (eOp ixF (eV 0) (eC (.int 1)))) (sNext)) (r0_raised_kind)
def r2_raised_kind : SF := sSeq (sIf (bE (eOp eqF (eOp ixF (eV 0) (eC (.int 0))) (eC (.str "div")))) (sRet (eC (.str "zero"))) (sNext)) (r1_raised_kind)
def body_raised_kind : SF := sSeq (sIf (bE (eOp eqF (eOp ixF (eV 0) (eC (.int 0))) (eC (.str "load")))) (sRet (eC (.str "unbound"))) (sNext)) (r2_raised_kind)
def f_raised_kind : List PV → RP := runP 1 1 body_raised_kind
def l0_receiver : SF := sIf (bAnd (bE (eChain leF ltF (eOp ixF (eV 3) (eC (.int 0))) (eV 1) (eOp ixF (eV 3) (eC (.int 1))))) (bOr (bE (eU (fun p => .bl (isNP p)) (eOp ixF (eV 3) (eC (.int 4))))) (bE (eOp eqF (eOp ixF (eV 3) (eC (.int 4))) (eV 2))))) (sRet (eV 3)) (sNext)
def r1_receiver : SF := sRet (eC .non)
def body_receiver : SF := sSeq (sFor (iAny (eV 0)) (gN 3) (l0_receiver)) (r1_receiver)
def f_receiver : List PV → RP := runP 3 4 body_receiver
def i0_moves : SF := sSeq (sSet 6 (eCallP f_receiver (aCons (eV 1) (aCons (eV 2) (aCons (eV 5) aNil))))) (sIf (bE (eU (fun p => .bl (!isNP p)) (eV 6))) (sExpr (eM "list" appendF (eV 3) (aCons (eTup (aCons (eOp ixF (eV 6) (eC (.int 2))) (aCons (eV 6) aNil))) aNil))) (sNext))
def r1_moves : SF := sRet (eV 3)
def r2_moves : SF := sSeq (sSet 5 (eCallP f_raised_kind (aCons (eOp ixF (eV 0) (eV 2)) aNil))) (sSeq (sIf (bE (eU (fun p => .bl (!isNP p)) (eV 5))) (i0_moves) (sNext)) (r1_moves))
def r3_moves : SF := sSeq (sIf (bE (eOp inF (eV 4) (eC (.con .out .tup (c_JUMPS.map PV.str))))) (sExpr (eM "list" appendF (eV 3) (aCons (eTup (aCons (eOp ixF (eOp ixF (eV 0) (eV 2)) (eC (.int 1))) (aCons (eC .non) aNil))) aNil))) (sNext)) (r2_moves)
def body_moves : SF := sSeq (sSet 3 (eLst true aNil)) (sSeq (sSet 4 (eOp ixF (eOp ixF (eV 0) (eV 2)) (eC (.int 0)))) (sSeq (sIf (bAnd (bE (eOp ninF (eV 4) (eC (.con .out .tup (c_LAST.map PV.str))))) (bE (eOp ltF (eOp (addF false) (eV 2) (eC (.int 1))) (eCall lenF (aCons (eV 0) aNil))))) (sExpr (eM "list" appendF (eV 3) (aCons (eTup (aCons (eOp (addF false) (eV 2) (eC (.int 1))) (aCons (eC .non) aNil))) aNil))) (sNext)) (r3_moves)))
def f_moves : List PV → RP := runP 3 7 body_moves
def l0_check_parts : SF := sIf (bNot (bT (eCallP f_fits_form (aCons (eV 4) aNil)))) (sRaise1 "BadInstruction" "index" (aCons (eV 3) aNil)) (sNext)
def l1_check_parts : SF := sIf (bAnd (bE (eOp inF (eOp ixF (eV 5) (eC (.int 0))) (eC (.con .out .tup (c_JUMPS.map PV.str))))) (bE (eOp geF (eOp ixF (eV 5) (eC (.int 1))) (eCall lenF (aCons (eV 0) aNil))))) (sRaise1 "BadTarget" "index" (aCons (eV 3) aNil)) (sNext)
def l2_check_parts : SF := sIf (bOr (bE (eOp geF (eV 3) (eCall lenF (aCons (eV 0) aNil)))) (bOr (bE (eOp geF (eV 3) (eCall lenF (aCons (eV 1) aNil)))) (bNot (bT (eCallP f_in_range (aCons (eOp ixF (eV 1) (eV 3)) (aCons (eC (.int 0)) (aCons (eC (.int c_LINES)) aNil)))))))) (sRaise1 "BadLine" "index" (aCons (eV 3) aNil)) (sNext)
def l3_check_parts : SF := sIf (bNot (bT (eCallP f_is_handler (aCons (eV 6) (aCons (eCall lenF (aCons (eV 0) aNil)) aNil))))) (sRaise1 "BadHandler" "index" (aCons (eV 3) aNil)) (sNext)
def r4_check_parts : SF := sIf (bE (eOp ninF (eOp ixF (eOp ixF (eV 0) (eNeg (eC (.int 1)))) (eC (.int 0))) (eC (.con .out .tup (c_LAST.map PV.str))))) (sRaise0 "FallsOff") (sNext)
def r5_check_parts : SF := sSeq (sFor (iE2 (eV 2)) (gU [3, 6]) (l3_check_parts)) (r4_check_parts)
def r6_check_parts : SF := sSeq (sFor (iR1 (aCons (eCall (ii2F fun i j => if j > i then j else i) (aCons (eCall lenF (aCons (eV 0) aNil)) (aCons (eCall lenF (aCons (eV 1) aNil)) aNil))) aNil)) (gN 3) (l2_check_parts)) (r5_check_parts)
def r7_check_parts : SF := sSeq (sFor (iE2 (eV 0)) (gU [3, 5]) (l1_check_parts)) (r6_check_parts)
def r8_check_parts : SF := sSeq (sFor (iE2 (eV 0)) (gU [3, 4]) (l0_check_parts)) (r7_check_parts)
def body_check_parts : SF := sSeq (sIf (bNot (bE (eChain leF leF (eC (.int 1)) (eCall lenF (aCons (eV 0) aNil)) (eC (.int c_MOST))))) (sRaise0 "BadCode") (sNext)) (r8_check_parts)
def f_check_parts : List PV → RP := runP 3 7 body_check_parts
def i0_depths_of : SF := sSeq (sSet 10 (eOp ixF (eV 9) (eC (.int 3)))) (sIf (bE (eOp ltF (eV 5) (eV 10))) (sRaise0 "BadDepth") (sNext))
def i1_depths_of : SF := sSeq (sAsg (eV 10) (gSubF setLF (eV 2) (eV 8))) (sExpr (eM "list" appendF (eV 3) (aCons (eV 8) aNil)))
def r2_depths_of : SF := sIf (bE (eU (fun p => .bl (isNP p)) (eOp ixF (eV 2) (eV 8)))) (i1_depths_of) (sIf (bE (eOp neF (eOp ixF (eV 2) (eV 8)) (eV 10))) (sRaise0 "BadDepth") (sNext))
def l3_depths_of : SF := sSeq (sSet 10 (eV 7)) (sSeq (sIf (bE (eU (fun p => .bl (!isNP p)) (eV 9))) (i0_depths_of) (sNext)) (r2_depths_of))
def r4_depths_of : SF := sSeq (sSet 7 (eOp (addF false) (eOp subF (eV 5) (eOp (mgetF c_REMOVED) (eV 6) (eC (.int 0)))) (eOp (mgetF c_PUSHED) (eV 6) (eC (.int 0))))) (sFor (iAny (eCallP f_moves (aCons (eV 0) (aCons (eV 1) (aCons (eV 4) aNil))))) (gU [8, 9]) (l3_depths_of))
def l5_depths_of : SF := sSeq (sSet 4 (eM "list" popF (eV 3) aNil)) (sSeq (sSet 5 (eOp ixF (eV 2) (eV 4))) (sSeq (sSet 6 (eOp ixF (eOp ixF (eV 0) (eV 4)) (eC (.int 0)))) (sSeq (sIf (bE (eOp ltF (eV 5) (eOp (mgetF c_REMOVED) (eV 6) (eC (.int 0))))) (sRaise0 "BadDepth") (sNext)) (r4_depths_of))))
def r6_depths_of : SF := sRet (eCall tupleF (aCons (eV 2) aNil))
def body_depths_of : SF := sSeq (sSet 2 (eOp (mulF true) (eLst false (aCons (eC .non) aNil)) (eCall lenF (aCons (eV 0) aNil)))) (sSeq (sAsg (eC (.int 0)) (gSubF setLF (eV 2) (eC (.int 0)))) (sSeq (sSet 3 (eLst true (aCons (eC (.int 0)) aNil))) (sSeq (sWhl (bT (eV 3)) (l5_depths_of)) (r6_depths_of))))
def f_depths_of : List PV → RP := runP 2 11 body_depths_of
def body_Unit_init : SF := sSeq (sExpr (eCallP f_check_parts (aCons (eV 1) (aCons (eV 2) (aCons (eV 3) aNil))))) (sSeq (sFldF ["Unit"] "code" (eV 0) (eCall tupleF (aCons (eV 1) aNil))) (sSeq (sFldF ["Unit"] "lines" (eV 0) (eCall tupleF (aCons (eV 2) aNil))) (sSeq (sFldF ["Unit"] "handlers" (eV 0) (eCall tupleF (aCons (eV 3) aNil))) (sFldF ["Unit"] "found_depths" (eV 0) (eCallP f_depths_of (aCons (eFld ["Unit"] "code" (eV 0)) (aCons (eFld ["Unit"] "handlers" (eV 0)) aNil)))))))
def i_Unit_init : List PV → RP := runI "Unit" 4 4 body_Unit_init
def body_law_begin : SF := sRet (eLst true (aCons (eCall (listF false) (aCons (eV 0) aNil)) (aCons (eC (.int 0)) (aCons (eC (.int 0)) (aCons (eC (.int 7)) aNil)))))
def f_law_begin : List PV → Sto → R PV := runW 1 1 body_law_begin
def i0_law_draw : SF := sSeq (sSet 3 (eOp ixF (eOp ixF (eV 0) (eC (.int 0))) (eOp ixF (eV 0) (eC (.int 1))))) (sSeq (sAsg (eOp (addF false) (eOp ixF (eV 0) (eC (.int 1))) (eC (.int 1))) (gSubF setLF (eV 0) (eC (.int 1)))) (sIf (bE (eOp geF (eV 3) (eOp powF (eC (.int 10)) (eC (.int 18))))) (sAsg (eV 3) (gSubF setLF (eV 0) (eC (.int 2)))) (sAsg (eOp modF (eCall int1F (aCons (eOp (addF false) (eOp (addF false) (eOp (mulF false) (eOp ixF (eV 0) (eC (.int 3))) (eC (.int 48271))) (eOp (mulF false) (eV 3) (eC (.int 69621)))) (eC (.int 11))) aNil)) (eC (.int 2147483647))) (gSubF setLF (eV 0) (eC (.int 3))))))
def i1_law_draw : SF := sSeq (sSet 2 (eOp modF (eCall int1F (aCons (eOp ixF (eV 0) (eC (.int 2))) aNil)) (eV 1))) (sSeq (sAsg (eOp fdivF (eOp ixF (eV 0) (eC (.int 2))) (eV 1)) (gSubF setLF (eV 0) (eC (.int 2)))) (sRet (eV 2)))
def r2_law_draw : SF := sRet (eOp modF (eOp modF (eCall int1F (aCons (eOp (mulF false) (eOp ixF (eV 0) (eC (.int 3))) (eC (.int 16807))) aNil)) (eC (.int 2147483629))) (eV 1))
def r3_law_draw : SF := sSeq (sIf (bE (eOp gtF (eOp ixF (eV 0) (eC (.int 2))) (eC (.int 0)))) (i1_law_draw) (sNext)) (r2_law_draw)
def body_law_draw : SF := sSeq (sIf (bE (eOp eqF (eOp ixF (eV 0) (eC (.int 2))) (eC (.int 0)))) (sIf (bE (eOp ltF (eOp ixF (eV 0) (eC (.int 1))) (eCall lenF (aCons (eOp ixF (eV 0) (eC (.int 0))) aNil)))) (i0_law_draw) (sAsg (eOp modF (eCall int1F (aCons (eOp (addF false) (eOp (mulF false) (eOp ixF (eV 0) (eC (.int 3))) (eC (.int 48271))) (eC (.int 7))) aNil)) (eC (.int 2147483647))) (gSubF setLF (eV 0) (eC (.int 3))))) (sNext)) (r3_law_draw)
def f_law_draw : List PV → Sto → R PV := runW 2 4 body_law_draw
def r0_law_number : SF := sRet (eOp subF (eCallW f_law_draw (aCons (eV 0) (aCons (eC (.int 7)) aNil))) (eC (.int 2)))
def r1_law_number : SF := sSeq (sIf (bE (eOp eqF (eV 1) (eC (.int 1)))) (sRet (eOp subF (eCallW f_law_draw (aCons (eV 0) (aCons (eOp powF (eC (.int 10)) (eC (.int 9))) aNil))) (eOp (mulF false) (eC (.int 5)) (eOp powF (eC (.int 10)) (eC (.int 8)))))) (sNext)) (r0_law_number)
def body_law_number : SF := sSeq (sSet 1 (eCallW f_law_draw (aCons (eV 0) (aCons (eC (.int 6)) aNil)))) (sSeq (sIf (bE (eOp eqF (eV 1) (eC (.int 0)))) (sRet (eOp ixF (eLst false (aCons (eC (.int 0)) (aCons (eC (.int 1)) (aCons (eNeg (eC (.int 1))) (aCons (eOp powF (eC (.int 10)) (eC (.int 30))) (aCons (eNeg (eOp powF (eC (.int 10)) (eC (.int 30)))) (aCons (eOp subF (eOp powF (eC (.int 10)) (eC (.int 30))) (eC (.int 1))) aNil))))))) (eCallW f_law_draw (aCons (eV 0) (aCons (eC (.int 6)) aNil))))) (sNext)) (r1_law_number))
def f_law_number : List PV → Sto → R PV := runW 1 2 body_law_number
def body_law_line : SF := sRet (eOp ixF (eLst false (aCons (eC (.int 0)) (aCons (eC (.int 1)) (aCons (eC (.int 1)) (aCons (eC (.int 2)) (aCons (eC (.int 3)) (aCons (eC (.int 7)) (aCons (eOp powF (eC (.int 10)) (eC (.int 6))) aNil)))))))) (eCallW f_law_draw (aCons (eV 0) (aCons (eC (.int 7)) aNil))))
def f_law_line : List PV → Sto → R PV := runW 1 1 body_law_line
def e0_law_value : SF := sSeq (sExpr (eM "list" appendF (eV 1) (aCons (eLst false (aCons (eTup (aCons (eC (.str "const")) (aCons (eCallW f_law_number (aCons (eV 0) aNil)) aNil))) (aCons (eV 2) aNil))) aNil))) (sSeq (sExpr (eM "list" appendF (eV 1) (aCons (eLst false (aCons (eTup (aCons (eC (.str "const")) (aCons (eCallW f_law_draw (aCons (eV 0) (aCons (eC (.int 4)) aNil))) aNil))) (aCons (eOp ixF (eLst false (aCons (eV 2) (aCons (eV 2) (aCons (eC (.int 0)) aNil)))) (eCallW f_law_draw (aCons (eV 0) (aCons (eC (.int 3)) aNil)))) aNil))) aNil))) (sSeq (sSet 4 (eOp ixF (eLst false (aCons (eC (.str "add")) (aCons (eC (.str "sub")) (aCons (eC (.str "less")) (aCons (eC (.str "div")) aNil))))) (eCallW f_law_draw (aCons (eV 0) (aCons (eC (.int 4)) aNil))))) (sExpr (eM "list" appendF (eV 1) (aCons (eLst false (aCons (eTup (aCons (eV 4) aNil)) (aCons (eOp ixF (eLst false (aCons (eV 2) (aCons (eV 2) (aCons (eC (.int 0)) (aCons (eC (.int 2)) aNil))))) (eCallW f_law_draw (aCons (eV 0) (aCons (eC (.int 4)) aNil)))) aNil))) aNil)))))
def i1_law_value : SF := sSeq (sExpr (eM "list" appendF (eV 1) (aCons (eLst false (aCons (eTup (aCons (eC (.str "load")) (aCons (eOp ixF (eLst false (aCons (eC (.str "a")) (aCons (eC (.str "b")) (aCons (eC (.str "c")) aNil)))) (eCallW f_law_draw (aCons (eV 0) (aCons (eC (.int 3)) aNil)))) aNil))) (aCons (eV 2) aNil))) aNil))) (sExpr (eM "list" appendF (eV 1) (aCons (eLst false (aCons (eTup (aCons (eOp ixF (eLst false (aCons (eC (.str "add")) (aCons (eC (.str "sub")) (aCons (eC (.str "less")) (aCons (eC (.str "div")) aNil))))) (eCallW f_law_draw (aCons (eV 0) (aCons (eC (.int 4)) aNil)))) aNil)) (aCons (eV 2) aNil))) aNil)))
def r2_law_value : SF := sIf (bE (eOp eqF (eCallW f_law_draw (aCons (eV 0) (aCons (eC (.int 6)) aNil))) (eC (.int 0)))) (sExpr (eM "list" appendF (eV 1) (aCons (eLst false (aCons (eTup (aCons (eC (.str "not")) aNil)) (aCons (eV 2) aNil))) aNil))) (sNext)
def r3_law_value : SF := sSeq (sIf (bE (eOp eqF (eCallW f_law_draw (aCons (eV 0) (aCons (eC (.int 4)) aNil))) (eC (.int 0)))) (i1_law_value) (sNext)) (r2_law_value)
def body_law_value : SF := sSeq (sSet 3 (eCallW f_law_draw (aCons (eV 0) (aCons (eC (.int 8)) aNil)))) (sSeq (sIf (bE (eOp leF (eV 3) (eC (.int 3)))) (sExpr (eM "list" appendF (eV 1) (aCons (eLst false (aCons (eTup (aCons (eC (.str "const")) (aCons (eCallW f_law_number (aCons (eV 0) aNil)) aNil))) (aCons (eV 2) aNil))) aNil))) (sIf (bE (eOp leF (eV 3) (eC (.int 5)))) (sExpr (eM "list" appendF (eV 1) (aCons (eLst false (aCons (eTup (aCons (eC (.str "load")) (aCons (eOp ixF (eLst false (aCons (eC (.str "a")) (aCons (eC (.str "b")) (aCons (eC (.str "c")) aNil)))) (eCallW f_law_draw (aCons (eV 0) (aCons (eC (.int 3)) aNil)))) aNil))) (aCons (eV 2) aNil))) aNil))) (e0_law_value))) (r3_law_value))
def f_law_value : List PV → Sto → R PV := runW 3 5 body_law_value
def i0_law_plain : SF := sSeq (sExpr (eCallW f_law_value (aCons (eV 0) (aCons (eV 1) (aCons (eV 2) aNil))))) (sExpr (eM "list" appendF (eV 1) (aCons (eLst false (aCons (eTup (aCons (eC (.str "print")) aNil)) (aCons (eV 2) aNil))) aNil)))
def i1_law_plain : SF := sSeq (sExpr (eCallW f_law_value (aCons (eV 0) (aCons (eV 1) (aCons (eV 2) aNil))))) (sExpr (eM "list" appendF (eV 1) (aCons (eLst false (aCons (eTup (aCons (eC (.str "store")) (aCons (eOp ixF (eLst false (aCons (eC (.str "a")) (aCons (eC (.str "b")) (aCons (eC (.str "c")) aNil)))) (eCallW f_law_draw (aCons (eV 0) (aCons (eC (.int 3)) aNil)))) aNil))) (aCons (eV 2) aNil))) aNil)))
def i2_law_plain : SF := sSeq (sExpr (eCallW f_law_value (aCons (eV 0) (aCons (eV 1) (aCons (eV 2) aNil))))) (sExpr (eM "list" appendF (eV 1) (aCons (eLst false (aCons (eTup (aCons (eC (.str "pop")) aNil)) (aCons (eOp ixF (eLst false (aCons (eV 2) (aCons (eC (.int 0)) aNil))) (eCallW f_law_draw (aCons (eV 0) (aCons (eC (.int 2)) aNil)))) aNil))) aNil)))
def i3_law_plain : SF := sSeq (sExpr (eCallW f_law_value (aCons (eV 0) (aCons (eV 1) (aCons (eV 2) aNil))))) (sSeq (sExpr (eM "list" appendF (eV 1) (aCons (eLst false (aCons (eTup (aCons (eC (.str "copy")) aNil)) (aCons (eV 2) aNil))) aNil))) (sSeq (sExpr (eM "list" appendF (eV 1) (aCons (eLst false (aCons (eTup (aCons (eC (.str "pop")) aNil)) (aCons (eV 2) aNil))) aNil))) (sExpr (eM "list" appendF (eV 1) (aCons (eLst false (aCons (eTup (aCons (eC (.str "print")) aNil)) (aCons (eV 2) aNil))) aNil)))))
def i4_law_plain : SF := sSeq (sExpr (eM "list" appendF (eV 1) (aCons (eLst false (aCons (eTup (aCons (eC (.str "skip")) aNil)) (aCons (eV 2) aNil))) aNil))) (sExpr (eM "list" appendF (eV 1) (aCons (eLst false (aCons (eTup (aCons (eC (.str "skip")) aNil)) (aCons (eOp ixF (eLst false (aCons (eC (.int 0)) (aCons (eV 2) aNil))) (eCallW f_law_draw (aCons (eV 0) (aCons (eC (.int 2)) aNil)))) aNil))) aNil)))
def body_law_plain : SF := sSeq (sSet 2 (eCallW f_law_line (aCons (eV 0) aNil))) (sSeq (sSet 3 (eCallW f_law_draw (aCons (eV 0) (aCons (eC (.int 9)) aNil)))) (sIf (bE (eOp leF (eV 3) (eC (.int 1)))) (i0_law_plain) (sIf (bE (eOp eqF (eV 3) (eC (.int 2)))) (i1_law_plain) (sIf (bE (eOp eqF (eV 3) (eC (.int 3)))) (sExpr (eM "list" appendF (eV 1) (aCons (eLst false (aCons (eTup (aCons (eC (.str "skip")) aNil)) (aCons (eV 2) aNil))) aNil))) (sIf (bE (eOp eqF (eV 3) (eC (.int 4)))) (i2_law_plain) (sIf (bE (eOp eqF (eV 3) (eC (.int 5)))) (i3_law_plain) (sIf (bE (eOp eqF (eV 3) (eC (.int 6)))) (i4_law_plain) (sIf (bAnd (bE (eOp eqF (eV 3) (eC (.int 7)))) (bE (eOp eqF (eCallW f_law_draw (aCons (eV 0) (aCons (eC (.int 3)) aNil))) (eC (.int 0))))) (sExpr (eM "list" appendF (eV 1) (aCons (eLst false (aCons (eTup (aCons (eC (.str "fail")) (aCons (eOp ixF (eLst false (aCons (eC (.str "oops")) (aCons (eC (.str "zero")) (aCons (eC (.str "unbound")) aNil)))) (eCallW f_law_draw (aCons (eV 0) (aCons (eC (.int 3)) aNil)))) aNil))) (aCons (eV 2) aNil))) aNil))) (sExpr (eM "list" appendF (eV 1) (aCons (eLst false (aCons (eTup (aCons (eC (.str "jump")) (aCons (eOp (addF false) (eCall lenF (aCons (eV 1) aNil)) (eC (.int 1))) aNil))) (aCons (eOp ixF (eLst false (aCons (eC (.int 0)) (aCons (eV 2) aNil))) (eCallW f_law_draw (aCons (eV 0) (aCons (eC (.int 2)) aNil)))) aNil))) aNil)))))))))))
def f_law_plain : List PV → Sto → R PV := runW 2 4 body_law_plain
def body_law_choice (self_law_body : List PV → Sto → R PV) : SF := sSeq (sSet 5 (eCallW f_law_line (aCons (eV 0) aNil))) (sSeq (sExpr (eCallW f_law_value (aCons (eV 0) (aCons (eV 1) (aCons (eV 5) aNil))))) (sSeq (sExpr (eM "list" appendF (eV 1) (aCons (eLst true (aCons (eTup (aCons (eC (.str "jumpif")) (aCons (eC (.int 0)) aNil))) (aCons (eV 5) aNil))) aNil))) (sSeq (sSet 6 (eOp subF (eCall lenF (aCons (eV 1) aNil)) (eC (.int 1)))) (sSeq (sExpr (eCallW self_law_body (aCons (eV 0) (aCons (eV 1) (aCons (eV 2) (aCons (eV 3) (aCons (eV 4) aNil))))))) (sSeq (sExpr (eM "list" appendF (eV 1) (aCons (eLst true (aCons (eTup (aCons (eC (.str "jump")) (aCons (eC (.int 0)) aNil))) (aCons (eOp ixF (eLst false (aCons (eC (.int 0)) (aCons (eV 5) aNil))) (eCallW f_law_draw (aCons (eV 0) (aCons (eC (.int 2)) aNil)))) aNil))) aNil))) (sSeq (sSet 7 (eOp subF (eCall lenF (aCons (eV 1) aNil)) (eC (.int 1)))) (sSeq (sAsg (eTup (aCons (eC (.str "jumpif")) (aCons (eCall lenF (aCons (eV 1) aNil)) aNil))) (gSubF setLF (eOp ixF (eV 1) (eV 6)) (eC (.int 0)))) (sSeq (sExpr (eCallW self_law_body (aCons (eV 0) (aCons (eV 1) (aCons (eV 2) (aCons (eV 3) (aCons (eV 4) aNil))))))) (sAsg (eTup (aCons (eC (.str "jump")) (aCons (eCall lenF (aCons (eV 1) aNil)) aNil))) (gSubF setLF (eOp ixF (eV 1) (eV 7)) (eC (.int 0))))))))))))
def e0_law_loop (self_law_body : List PV → Sto → R PV) : SF := sSeq (sExpr (eM "list" appendF (eV 1) (aCons (eLst false (aCons (eTup (aCons (eC (.str "load")) (aCons (eC (.str "a")) aNil))) (aCons (eV 5) aNil))) aNil))) (sSeq (sExpr (eM "list" appendF (eV 1) (aCons (eLst false (aCons (eTup (aCons (eC (.str "const")) (aCons (eC (.int 1)) aNil))) (aCons (eV 5) aNil))) aNil))) (sSeq (sExpr (eM "list" appendF (eV 1) (aCons (eLst false (aCons (eTup (aCons (eC (.str "sub")) aNil)) (aCons (eV 5) aNil))) aNil))) (sSeq (sExpr (eM "list" appendF (eV 1) (aCons (eLst false (aCons (eTup (aCons (eC (.str "copy")) aNil)) (aCons (eV 5) aNil))) aNil))) (sSeq (sExpr (eM "list" appendF (eV 1) (aCons (eLst false (aCons (eTup (aCons (eC (.str "store")) (aCons (eC (.str "a")) aNil))) (aCons (eV 5) aNil))) aNil))) (sSeq (sExpr (eM "list" appendF (eV 1) (aCons (eLst false (aCons (eTup (aCons (eC (.str "const")) (aCons (eC (.int 0)) aNil))) (aCons (eV 5) aNil))) aNil))) (sSeq (sExpr (eM "list" appendF (eV 1) (aCons (eLst false (aCons (eTup (aCons (eC (.str "less")) aNil)) (aCons (eV 5) aNil))) aNil))) (sSeq (sExpr (eM "list" appendF (eV 1) (aCons (eLst false (aCons (eTup (aCons (eC (.str "not")) aNil)) (aCons (eV 5) aNil))) aNil))) (sExpr (eM "list" appendF (eV 1) (aCons (eLst false (aCons (eTup (aCons (eC (.str "jumpif")) (aCons (eV 6) aNil))) (aCons (eV 5) aNil))) aNil))))))))))
def body_law_loop (self_law_body : List PV → Sto → R PV) : SF := sSeq (sSet 5 (eCallW f_law_line (aCons (eV 0) aNil))) (sSeq (sSet 6 (eCall lenF (aCons (eV 1) aNil))) (sSeq (sExpr (eCallW self_law_body (aCons (eV 0) (aCons (eV 1) (aCons (eV 2) (aCons (eV 3) (aCons (eV 4) aNil))))))) (sSeq (sSet 7 (eCallW f_law_draw (aCons (eV 0) (aCons (eC (.int 4)) aNil)))) (sIf (bE (eOp eqF (eV 7) (eC (.int 0)))) (sExpr (eM "list" appendF (eV 1) (aCons (eLst false (aCons (eTup (aCons (eC (.str "jump")) (aCons (eV 6) aNil))) (aCons (eOp ixF (eLst false (aCons (eC (.int 0)) (aCons (eV 5) aNil))) (eCallW f_law_draw (aCons (eV 0) (aCons (eC (.int 2)) aNil)))) aNil))) aNil))) ((e0_law_loop self_law_body))))))
def body_law_guard (self_law_body : List PV → Sto → R PV) : SF := sSeq (sSet 5 (eCall lenF (aCons (eV 1) aNil))) (sSeq (sExpr (eCallW self_law_body (aCons (eV 0) (aCons (eV 1) (aCons (eV 2) (aCons (eV 3) (aCons (eV 4) aNil))))))) (sSeq (sSet 6 (eCall lenF (aCons (eV 1) aNil))) (sSeq (sExpr (eM "list" appendF (eV 1) (aCons (eLst true (aCons (eTup (aCons (eC (.str "jump")) (aCons (eC (.int 0)) aNil))) (aCons (eCallW f_law_line (aCons (eV 0) aNil)) aNil))) aNil))) (sSeq (sSet 7 (eCall lenF (aCons (eV 2) aNil))) (sSeq (sSet 8 (eOp ixF (eLst false (aCons (eC .non) (aCons (eC (.str "zero")) (aCons (eC (.str "unbound")) (aCons (eC (.str "oops")) aNil))))) (eCallW f_law_draw (aCons (eV 0) (aCons (eC (.int 4)) aNil))))) (sSeq (sSet 9 (eCall lenF (aCons (eV 1) aNil))) (sSeq (sExpr (eCallW f_law_plain (aCons (eV 0) (aCons (eV 1) aNil)))) (sSeq (sAsg (eTup (aCons (eC (.str "jump")) (aCons (eCall lenF (aCons (eV 1) aNil)) aNil))) (gSubF setLF (eOp ixF (eV 1) (eV 6)) (eC (.int 0)))) (sIf (bE (eOp gtF (eV 6) (eV 5))) (sExpr (eM "list" insertF (eV 2) (aCons (eV 7) (aCons (eTup (aCons (eV 5) (aCons (eV 6) (aCons (eV 9) (aCons (eV 4) (aCons (eV 8) aNil)))))) aNil)))) (sNext))))))))))
def i0_law_body (self_law_choice : List PV → Sto → R PV) (self_law_loop : List PV → Sto → R PV) (self_law_body : List PV → Sto → R PV) (self_law_guard : List PV → Sto → R PV) : SF := sSeq (sExpr (eM "list" appendF (eV 1) (aCons (eLst false (aCons (eTup (aCons (eC (.str "const")) (aCons (eCallW f_law_number (aCons (eV 0) aNil)) aNil))) (aCons (eCallW f_law_line (aCons (eV 0) aNil)) aNil))) aNil))) (sSeq (sExpr (eCallW self_law_body (aCons (eV 0) (aCons (eV 1) (aCons (eV 2) (aCons (eOp subF (eV 3) (eC (.int 1))) (aCons (eOp (addF false) (eV 4) (eC (.int 1))) aNil))))))) (sExpr (eM "list" appendF (eV 1) (aCons (eLst false (aCons (eOp ixF (eLst false (aCons (eTup (aCons (eC (.str "pop")) aNil)) (aCons (eTup (aCons (eC (.str "print")) aNil)) aNil))) (eCallW f_law_draw (aCons (eV 0) (aCons (eC (.int 2)) aNil)))) (aCons (eCallW f_law_line (aCons (eV 0) aNil)) aNil))) aNil))))
def l1_law_body (self_law_choice : List PV → Sto → R PV) (self_law_loop : List PV → Sto → R PV) (self_law_body : List PV → Sto → R PV) (self_law_guard : List PV → Sto → R PV) : SF := sSeq (sSet 6 (eCallW f_law_draw (aCons (eV 0) (aCons (eC (.int 8)) aNil)))) (sIf (bOr (bE (eOp gtF (eCall lenF (aCons (eV 1) aNil)) (eC (.int 50)))) (bOr (bE (eOp eqF (eV 3) (eC (.int 0)))) (bE (eOp leF (eV 6) (eC (.int 3)))))) (sExpr (eCallW f_law_plain (aCons (eV 0) (aCons (eV 1) aNil)))) (sIf (bE (eOp eqF (eV 6) (eC (.int 4)))) (sExpr (eCallW self_law_choice (aCons (eV 0) (aCons (eV 1) (aCons (eV 2) (aCons (eOp subF (eV 3) (eC (.int 1))) (aCons (eV 4) aNil))))))) (sIf (bE (eOp eqF (eV 6) (eC (.int 5)))) (sExpr (eCallW self_law_loop (aCons (eV 0) (aCons (eV 1) (aCons (eV 2) (aCons (eOp subF (eV 3) (eC (.int 1))) (aCons (eV 4) aNil))))))) (sIf (bE (eOp eqF (eV 6) (eC (.int 6)))) ((i0_law_body self_law_choice self_law_loop self_law_body self_law_guard)) (sExpr (eCallW self_law_guard (aCons (eV 0) (aCons (eV 1) (aCons (eV 2) (aCons (eOp subF (eV 3) (eC (.int 1))) (aCons (eV 4) aNil)))))))))))
def body_law_body (self_law_choice : List PV → Sto → R PV) (self_law_loop : List PV → Sto → R PV) (self_law_body : List PV → Sto → R PV) (self_law_guard : List PV → Sto → R PV) : SF := sFor (iR1 (aCons (eCallW f_law_draw (aCons (eV 0) (aCons (eC (.int 3)) aNil))) aNil)) (gN 5) ((l1_law_body self_law_choice self_law_loop self_law_body self_law_guard))
def fam_law_body : Nat → (List PV → Sto → R PV) × (List PV → Sto → R PV) × (List PV → Sto → R PV) × (List PV → Sto → R PV)
  | 0 => (fun _ _ => .bad, fun _ _ => .bad, fun _ _ => .bad, fun _ _ => .bad)
  | n + 1 => (runW 5 8 (body_law_choice (fam_law_body n).2.2.2), runW 5 8 (body_law_loop (fam_law_body n).2.2.2), runW 5 10 (body_law_guard (fam_law_body n).2.2.2), runW 5 7 (body_law_body (fam_law_body n).1 (fam_law_body n).2.1 (fam_law_body n).2.2.2 (fam_law_body n).2.2.1))
def f_law_choice (n : Nat) : List PV → Sto → R PV := (fam_law_body n).1
def f_law_loop (n : Nat) : List PV → Sto → R PV := (fam_law_body n).2.1
def f_law_guard (n : Nat) : List PV → Sto → R PV := (fam_law_body n).2.2.1
def f_law_body (n : Nat) : List PV → Sto → R PV := (fam_law_body n).2.2.2
theorem f_law_choice_s {n : Nat} : f_law_choice (n + 1) = runW 5 8 (body_law_choice (f_law_body n)) := (rfl)
theorem f_law_loop_s {n : Nat} : f_law_loop (n + 1) = runW 5 8 (body_law_loop (f_law_body n)) := (rfl)
theorem f_law_guard_s {n : Nat} : f_law_guard (n + 1) = runW 5 10 (body_law_guard (f_law_body n)) := (rfl)
theorem f_law_body_s {n : Nat} : f_law_body (n + 1) = runW 5 7 (body_law_body (f_law_choice n) (f_law_loop n) (f_law_body n) (f_law_guard n)) := (rfl)
def l0_law_parts : SF := sExpr (eCallW (f_law_body 10) (aCons (eV 0) (aCons (eV 1) (aCons (eV 2) (aCons (eC (.int 3)) (aCons (eC (.int 0)) aNil))))))
def i1_law_parts : SF := sSeq (sExpr (eM "list" appendF (eV 1) (aCons (eLst false (aCons (eTup (aCons (eC (.str "const")) (aCons (eC (.int 5)) aNil))) (aCons (eC (.int 2)) aNil))) aNil))) (sSeq (sExpr (eM "list" appendF (eV 1) (aCons (eLst false (aCons (eTup (aCons (eC (.str "print")) aNil)) (aCons (eC (.int 3)) aNil))) aNil))) (sExpr (eM "list" appendF (eV 1) (aCons (eLst false (aCons (eTup (aCons (eC (.str "jump")) (aCons (eC (.int 0)) aNil))) (aCons (eC (.int 0)) aNil))) aNil))))
def r2_law_parts : SF := sSeq (sSet 4 (eLc true (iAny (eV 1)) (gN 6) (bYes) (eOp ixF (eV 6) (eC (.int 0))) [6])) (sSeq (sSet 5 (eLc true (iAny (eV 1)) (gN 6) (bYes) (eOp ixF (eV 6) (eC (.int 1))) [6])) (sRet (eLst true (aCons (eV 4) (aCons (eV 5) (aCons (eV 2) aNil))))))
def r3_law_parts : SF := sSeq (sExpr (eM "list" appendF (eV 1) (aCons (eLst false (aCons (eTup (aCons (eC (.str "end")) aNil)) (aCons (eCallW f_law_line (aCons (eV 0) aNil)) aNil))) aNil))) (sSeq (sIf (bE (eOp eqF (eCallW f_law_draw (aCons (eV 0) (aCons (eC (.int 4)) aNil))) (eC (.int 0)))) (i1_law_parts) (sNext)) (r2_law_parts))
def body_law_parts : SF := sSeq (sSet 1 (eLst true aNil)) (sSeq (sSet 2 (eLst true aNil)) (sSeq (sFor (iR1 (aCons (eOp (addF false) (eC (.int 1)) (eCallW f_law_draw (aCons (eV 0) (aCons (eC (.int 3)) aNil)))) aNil)) (gN 3) (l0_law_parts)) (r3_law_parts)))
def f_law_parts : List PV → Sto → R PV := runW 1 7 body_law_parts
end Law
namespace Law
open PySem PySem.Spec PyProof.Rows L2 Pv
def c_FIGURES : Str := "0123456789"
def body_Unit_eq : SF := sRet (eAnd (eCall (isoF "Unit") (aCons (eV 1) (aCons (eC (.fn "Unit")) aNil))) (eAnd (eOp eqF (eFld ["Unit"] "code" (eV 0)) (eFld ["Unit"] "code" (eV 1))) (eAnd (eOp eqF (eFld ["Unit"] "lines" (eV 0)) (eFld ["Unit"] "lines" (eV 1))) (eOp eqF (eFld ["Unit"] "handlers" (eV 0)) (eFld ["Unit"] "handlers" (eV 1))))))
def f_Unit_eq : List PV → RP := runP 2 2 body_Unit_eq
@[reducible] def body_row_text : SF := sRet (eM "str" joinF (eC (.str " ")) (aCons (eOp (addF false) (eLst false (aCons (eCall strF (aCons (eV 0) aNil)) aNil)) (eLc false (iAny (eV 1)) (gN 2) (bYes) (eCall strF (aCons (eV 2) aNil)) [2])) aNil))
def f_row_text : List PV → RP := runP 2 3 body_row_text
@[reducible] def r0_handler_text : SF := sRet (eJoin [eC (.str "handler "), eFmt (eV 1), eC (.str " "), eFmt (eV 2), eC (.str " "), eFmt (eV 3), eC (.str " "), eFmt (eV 4), eC (.str " "), eFmt (eV 5)])
@[reducible] def body_handler_text : SF := sSeq (sAsg (eV 0) (gU [1, 2, 3, 4, 5])) (sSeq (sIf (bE (eU (fun p => .bl (isNP p)) (eV 5))) (sSet 5 (eC (.str "any"))) (sNext)) (r0_handler_text))
def f_handler_text : List PV → RP := runP 1 6 body_handler_text
@[reducible] def body_write : SF := sSeq (sSet 1 (eLc false (iZ2 (aCons (eFld ["Unit"] "lines" (eV 0)) (aCons (eFld ["Unit"] "code" (eV 0)) aNil))) (gT [2, 3]) (bYes) (eCallP f_row_text (aCons (eV 2) (aCons (eV 3) aNil))) [2, 3])) (sRet (eM "str" joinF (eC (.str "\n")) (aCons (eOp (addF false) (eV 1) (eLc false (iAny (eFld ["Unit"] "handlers" (eV 0))) (gN 4) (bYes) (eCallP f_handler_text (aCons (eV 4) aNil)) [4])) aNil)))
def f_write : List PV → RP := runP 1 5 body_write
def l0_number_of : SF := sIf (bE (eOp ninF (eV 4) (eC (.str c_FIGURES)))) (sRet (eC .non)) (sNext)
@[reducible] def r1_number_of : SF := sRet (eV 5)
@[reducible] def r2_number_of : SF := sSeq (sSet 5 (eCall int2F (aCons (eV 0) aNil))) (sSeq (sIf (bNot (bE (eChain leF leF (eV 1) (eV 5) (eV 2)))) (sRet (eC .non)) (sNext)) (r1_number_of))
@[reducible] def r3_number_of : SF := sSeq (sIf (bAnd (bE (eOp eqF (eOp ixF (eV 3) (eC (.int 0))) (eC (.str "0")))) (bOr (bE (eOp gtF (eCall lenF (aCons (eV 3) aNil)) (eC (.int 1)))) (bE (eOp neF (eV 3) (eV 0))))) (sRet (eC .non)) (sNext)) (r2_number_of)
@[reducible] def r4_number_of : SF := sSeq (sFor (iAny (eV 3)) (gN 4) (l0_number_of)) (r3_number_of)
@[reducible] def r5_number_of : SF := sSeq (sIf (bOr (bE (eOp eqF (eV 3) (eC (.str "")))) (bE (eOp gtF (eCall lenF (aCons (eV 3) aNil)) (eC (.int 40))))) (sRet (eC .non)) (sNext)) (r4_number_of)
@[reducible] def body_number_of : SF := sSeq (sSet 3 (eV 0)) (sSeq (sIf (bAnd (bE (eOp eqF (eSl false (eV 0) oN (oS (eC (.int 1)))) (eC (.str "-")))) (bE (eOp ltF (eV 1) (eC (.int 0))))) (sSet 3 (eSl false (eV 0) (oS (eC (.int 1))) oN)) (sNext)) (r5_number_of))
def f_number_of : List PV → RP := runP 3 6 body_number_of
@[reducible] def r0_item_of : SF := sRet (eC .non)
@[reducible] def r1_item_of : SF := sSeq (sIf (bT (eCallP f_is_word (aCons (eV 1) aNil))) (sRet (eV 1)) (sNext)) (r0_item_of)
@[reducible] def r2_item_of : SF := sSeq (sIf (bE (eOp inF (eV 0) (eC (.con .out .tup (c_JUMPS.map PV.str))))) (sRet (eCallP f_number_of (aCons (eV 1) (aCons (eC (.int 0)) (aCons (eC (.int c_GREATEST)) aNil))))) (sNext)) (r1_item_of)
@[reducible] def body_item_of : SF := sSeq (sIf (bE (eOp eqF (eV 0) (eC (.str "const")))) (sRet (eCallP f_number_of (aCons (eV 1) (aCons (eNeg (eC (.int c_GREATEST))) (aCons (eC (.int c_GREATEST)) aNil))))) (sNext)) (r2_item_of)
def f_item_of : List PV → RP := runP 2 2 body_item_of
@[reducible] def r0_instruction_of : SF := sRet (eTup (aCons (eV 2) (aCons (eTup (aCons (eV 3) aNil)) aNil)))
@[reducible] def i1_instruction_of : SF := sSeq (sIf (bE (eOp gtF (eCall lenF (aCons (eV 0) aNil)) (eC (.int 2)))) (sRaise2 "BadText" "row" "word" (aCons (eV 1) (aCons (eC (.int 3)) aNil))) (sNext)) (r0_instruction_of)
@[reducible] def r2_instruction_of : SF := sRet (eTup (aCons (eV 2) (aCons (eTup (aCons (eV 3) (aCons (eV 4) aNil))) aNil)))
@[reducible] def r3_instruction_of : SF := sSeq (sIf (bE (eOp gtF (eCall lenF (aCons (eV 0) aNil)) (eC (.int 3)))) (sRaise2 "BadText" "row" "word" (aCons (eV 1) (aCons (eC (.int 4)) aNil))) (sNext)) (r2_instruction_of)
@[reducible] def r4_instruction_of : SF := sSeq (sIf (bE (eU (fun p => .bl (isNP p)) (eV 4))) (sRaise2 "BadText" "row" "word" (aCons (eV 1) (aCons (eC (.int 3)) aNil))) (sNext)) (r3_instruction_of)
@[reducible] def r5_instruction_of : SF := sSeq (sSet 4 (eC .non)) (sSeq (sIf (bE (eOp gtF (eCall lenF (aCons (eV 0) aNil)) (eC (.int 2)))) (sSet 4 (eCallP f_item_of (aCons (eV 3) (aCons (eOp ixF (eV 0) (eC (.int 2))) aNil)))) (sNext)) (r4_instruction_of))
@[reducible] def r6_instruction_of : SF := sSeq (sIf (bAnd (bE (eOp neF (eV 3) (eC (.str "const")))) (bAnd (bE (eOp ninF (eV 3) (eC (.con .out .tup (c_JUMPS.map PV.str))))) (bE (eOp ninF (eV 3) (eC (.con .out .tup (c_NAMED.map PV.str))))))) (sRaise2 "BadText" "row" "word" (aCons (eV 1) (aCons (eC (.int 2)) aNil))) (sNext)) (r5_instruction_of)
@[reducible] def r7_instruction_of : SF := sSeq (sIf (bE (eOp inF (eV 3) (eC (.con .out .tup (c_PLAIN.map PV.str))))) (i1_instruction_of) (sNext)) (r6_instruction_of)
@[reducible] def r8_instruction_of : SF := sSeq (sSet 3 (eC (.str ""))) (sSeq (sIf (bE (eOp gtF (eCall lenF (aCons (eV 0) aNil)) (eC (.int 1)))) (sSet 3 (eOp ixF (eV 0) (eC (.int 1)))) (sNext)) (r7_instruction_of))
@[reducible] def body_instruction_of : SF := sSeq (sSet 2 (eCallP f_number_of (aCons (eOp ixF (eV 0) (eC (.int 0))) (aCons (eC (.int 0)) (aCons (eC (.int c_LINES)) aNil))))) (sSeq (sIf (bE (eU (fun p => .bl (isNP p)) (eV 2))) (sRaise2 "BadText" "row" "word" (aCons (eV 1) (aCons (eC (.int 1)) aNil))) (sNext)) (r8_instruction_of))
def f_instruction_of : List PV → RP := runP 2 5 body_instruction_of
@[reducible] def r0_handler_of : SF := sExpr (eM "list" appendF (eV 2) (aCons (eV 5) aNil))
@[reducible] def r1_handler_of : SF := sSeq (sIf (bE (eU (fun p => .bl (isNP p)) (eV 5))) (sRaise2 "BadText" "row" "word" (aCons (eV 1) (aCons (eOp (addF false) (eV 3) (eC (.int 1))) aNil))) (sNext)) (r0_handler_of)
def l2_handler_of : SF := sSeq (sSet 5 (eC .non)) (sSeq (sIf (bE (eOp ltF (eV 3) (eCall lenF (aCons (eV 0) aNil)))) (sSet 5 (eCallP f_number_of (aCons (eOp ixF (eV 0) (eV 3)) (aCons (eC (.int 0)) (aCons (eC (.int c_GREATEST)) aNil))))) (sNext)) (r1_handler_of))
@[reducible] def r3_handler_of : SF := sRet (eOp (addF false) (eCall tupleF (aCons (eV 2) aNil)) (eTup (aCons (eV 4) aNil)))
@[reducible] def r4_handler_of : SF := sSeq (sSet 4 (eOp ixF (eV 0) (eC (.int 5)))) (sSeq (sIf (bE (eOp eqF (eV 4) (eC (.str "any")))) (sSet 4 (eC .non)) (sNext)) (r3_handler_of))
@[reducible] def r5_handler_of : SF := sSeq (sIf (bE (eOp gtF (eCall lenF (aCons (eV 0) aNil)) (eC (.int 6)))) (sRaise2 "BadText" "row" "word" (aCons (eV 1) (aCons (eC (.int 7)) aNil))) (sNext)) (r4_handler_of)
@[reducible] def r6_handler_of : SF := sSeq (sIf (bOr (bE (eOp ltF (eCall lenF (aCons (eV 0) aNil)) (eC (.int 6)))) (bNot (bT (eCallP f_is_word (aCons (eOp ixF (eV 0) (eC (.int 5))) aNil))))) (sRaise2 "BadText" "row" "word" (aCons (eV 1) (aCons (eC (.int 6)) aNil))) (sNext)) (r5_handler_of)
@[reducible] def body_handler_of : SF := sSeq (sSet 2 (eLst true aNil)) (sSeq (sFor (iR2 (aCons (eC (.int 1)) (aCons (eC (.int 5)) aNil))) (gN 3) (l2_handler_of)) (r6_handler_of))
def f_handler_of : List PV → RP := runP 2 6 body_handler_of
@[reducible] def e0_read : SF := sSeq (sAsg (eCallP f_instruction_of (aCons (eV 6) (aCons (eOp (addF false) (eV 4) (eC (.int 1))) aNil))) (gU [7, 8])) (sSeq (sExpr (eM "list" appendF (eV 2) (aCons (eV 7) aNil))) (sExpr (eM "list" appendF (eV 1) (aCons (eV 8) aNil))))
def l1_read : SF := sSeq (sSet 6 (eM "str" (splitF false) (eV 5) (aCons (eC (.str " ")) aNil))) (sIf (bE (eOp eqF (eOp ixF (eV 6) (eC (.int 0))) (eC (.str "handler")))) (sExpr (eM "list" appendF (eV 3) (aCons (eCallP f_handler_of (aCons (eV 6) (aCons (eOp (addF false) (eV 4) (eC (.int 1))) aNil))) aNil))) (sIf (bT (eV 3)) (sRaise2 "BadText" "row" "word" (aCons (eOp (addF false) (eV 4) (eC (.int 1))) (aCons (eC (.int 1)) aNil))) (e0_read)))
@[reducible] def r2_read : SF := sRet (eMakeP i_Unit_init 3 [] (aCons (eV 1) (aCons (eV 2) (aCons (eV 3) aNil))))
@[reducible] def body_read : SF := sSeq (sSet 1 (eLst true aNil)) (sSeq (sSet 2 (eLst true aNil)) (sSeq (sSet 3 (eLst true aNil)) (sSeq (sFor (iE2 (eM "str" (splitF false) (eV 0) (aCons (eC (.str "\n")) aNil))) (gU [4, 5]) (l1_read)) (r2_read))))
def f_read : List PV → RP := runP 1 9 body_read
def r0_law_word : SF := sSeq (sSet 3 (eC (.str "abcdefghijklmnopqrstuvwxyz"))) (sSeq (sSet 4 (eOp (addF false) (eC (.int 1)) (eCallW f_law_draw (aCons (eV 0) (aCons (eC (.int 8)) aNil))))) (sRet (eM "str" joinF (eC (.str "")) (aCons (eLc false (iR1 (aCons (eV 4) aNil)) (gN 5) (bYes) (eOp ixF (eV 3) (eCallW f_law_draw (aCons (eV 0) (aCons (eC (.int 26)) aNil)))) [5]) aNil))))
def body_law_word : SF := sSeq (sSet 1 (eLst false (aCons (eC (.str "a")) (aCons (eC (.str "b")) (aCons (eC (.str "x")) (aCons (eC (.str "line")) (aCons (eC (.str "zero")) (aCons (eC (.str "unbound")) (aCons (eC (.str "any")) (aCons (eC (.str "handler")) aNil)))))))))) (sSeq (sSet 2 (eCallW f_law_draw (aCons (eV 0) (aCons (eC (.int 10)) aNil)))) (sSeq (sIf (bE (eOp ltF (eV 2) (eC (.int 8)))) (sRet (eOp ixF (eV 1) (eV 2))) (sNext)) (r0_law_word)))
def f_law_word : List PV → Sto → R PV := runW 1 6 body_law_word
def l0_law_figures (self_law_figures : List PV → RP) : SF := sSeq (sExpr (eM "list" appendF (eV 1) (aCons (eOp ixF (eC (.str "0123456789")) (eOp modF (eCall int1F (aCons (eV 2) aNil)) (eC (.int 10)))) aNil))) (sSet 2 (eOp fdivF (eV 2) (eC (.int 10))))
@[reducible] def r1_law_figures (self_law_figures : List PV → RP) : SF := sSeq (sExpr (eM "list" appendF (eV 1) (aCons (eOp ixF (eC (.str "0123456789")) (eV 2)) aNil))) (sSeq (sExpr (eM "list" reverseF (eV 1) aNil)) (sRet (eM "str" joinF (eC (.str "")) (aCons (eV 1) aNil))))
@[reducible] def r2_law_figures (self_law_figures : List PV → RP) : SF := sSeq (sSet 1 (eLst true aNil)) (sSeq (sSet 2 (eV 0)) (sSeq (sWhl (bE (eOp gtF (eV 2) (eC (.int 9)))) ((l0_law_figures self_law_figures))) ((r1_law_figures self_law_figures))))
@[reducible] def body_law_figures (self_law_figures : List PV → RP) : SF := sSeq (sIf (bE (eOp ltF (eV 0) (eC (.int 0)))) (sRet (eOp (addF false) (eC (.str "-")) (eCallP self_law_figures (aCons (eNeg (eV 0)) aNil)))) (sNext)) ((r2_law_figures self_law_figures))
def f_law_figures : Nat → List PV → RP
  | 0 => fun _ => .bad
  | n + 1 => runP 1 3 (body_law_figures (f_law_figures n))
@[reducible] def r0_law_item : SF := sRet (eV 0)
@[reducible] def r1_law_item : SF := sSeq (sIf (bE (eU (fun p => .bl (isNP p)) (eV 0))) (sRet (eC (.str "any"))) (sNext)) (r0_law_item)
@[reducible] def body_law_item : SF := sSeq (sIf (bT (eCall isiF (aCons (eV 0) (aCons (eC (.ty "int")) aNil)))) (sRet (eCallP (f_law_figures 10) (aCons (eV 0) aNil))) (sNext)) (r1_law_item)
def f_law_item : List PV → RP := runP 1 1 body_law_item
def l0_law : SF := sIf (bE (eOp inF (eOp ixF (eOp ixF (eV 2) (eV 6)) (eC (.int 0))) (eTup (aCons (eC (.str "load")) (aCons (eC (.str "store")) aNil))))) (sAsg (eTup (aCons (eOp ixF (eOp ixF (eV 2) (eV 6)) (eC (.int 0))) (aCons (eOp ixF (eV 5) (eM "list" lindexF (eLst false (aCons (eC (.str "a")) (aCons (eC (.str "b")) (aCons (eC (.str "c")) aNil)))) (aCons (eOp ixF (eOp ixF (eV 2) (eV 6)) (eC (.int 1))) aNil))) aNil))) (gSubF setLF (eV 2) (eV 6))) (sNext)
def l1_law : SF := sExpr (eM "list" appendF (eV 8) (aCons (eM "str" joinF (eC (.str " ")) (aCons (eLc false (iAny (eOp (addF false) (eTup (aCons (eOp ixF (eV 3) (eV 6)) aNil)) (eOp ixF (eV 2) (eV 6)))) (gN 12) (bYes) (eCallP f_law_item (aCons (eV 12) aNil)) [12]) aNil)) aNil))
def l2_law : SF := sExpr (eM "list" appendF (eV 8) (aCons (eM "str" joinF (eC (.str " ")) (aCons (eOp (addF false) (eLst false (aCons (eC (.str "handler")) aNil)) (eLc false (iAny (eV 9)) (gN 12) (bYes) (eCallP f_law_item (aCons (eV 12) aNil)) [12])) aNil)) aNil))
@[reducible] def r3_law : SF := sSeq (sSet 11 (eCallP f_read (aCons (eV 10) aNil))) (sRet (eAnd (eCall (isoF "Unit") (aCons (eV 11) (aCons (eC (.fn "Unit")) aNil))) (eAnd (eOp (eqF2 "Unit" f_Unit_eq) (eV 11) (eV 7)) (eOp eqF (eCallP f_write (aCons (eV 11) aNil)) (eV 10)))))
@[reducible] def r4_law : SF := sSeq (sSet 10 (eCallP f_write (aCons (eV 7) aNil))) (sSeq (sIf (bOr (bNot (bT (eCall isiF (aCons (eV 10) (aCons (eC (.ty "str")) aNil))))) (bE (eOp neF (eV 10) (eM "str" joinF (eC (.str "\n")) (aCons (eV 8) aNil))))) (sRet (eC (.bl false))) (sNext)) (r3_law))
@[reducible] def r5_law : SF := sSeq (sFor (iAny (eV 4)) (gN 9) (l2_law)) (r4_law)
@[reducible] def r6_law : SF := sSeq (sSet 7 (eMakeP i_Unit_init 3 [] (aCons (eV 2) (aCons (eV 3) (aCons (eV 4) aNil))))) (sSeq (sSet 8 (eLst true aNil)) (sSeq (sFor (iR1 (aCons (eCall lenF (aCons (eV 2) aNil)) aNil)) (gN 6) (l1_law)) (r5_law)))
@[reducible] def body_law : SF := sSeq (sSet 1 (eCallW f_law_begin (aCons (eV 0) aNil))) (sSeq (sAsg (eCallW f_law_parts (aCons (eV 1) aNil)) (gU [2, 3, 4])) (sSeq (sSet 5 (eLc false (iR1 (aCons (eC (.int 3)) aNil)) (gN 6) (bYes) (eCallW f_law_word (aCons (eV 1) aNil)) [6])) (sSeq (sFor (iR1 (aCons (eCall lenF (aCons (eV 2) aNil)) aNil)) (gN 6) (l0_law)) (r6_law))))
def f_law : List PV → RP := runP 1 13 body_law
end Law
namespace Law
open PySem PySem.Spec PyProof.Rows L2 Pv
def topS (i : Nat) : Stmt := PySem.Challenge.pw_codetables_k29_texts_there_and_back.main.body.getD i (.Pass ⟨0, 0, 0, 0⟩)
theorem sc_in_range : FnScope ["value", "least", "greatest"] ["value", "least", "greatest"] (defScope (topS 21)) := ⟨rfl, rfl, rfl, by decide +kernel, rfl, by decide +kernel, by decide +kernel⟩
theorem d_in_range {P : Program} {w : World} {K : PySem.W.Frag} {mg : Str → Option Value} {base : Heap} (F : DefAt K mg "in_range" (topS 21) ["value", "least", "greatest"]) (z_bool : mg "bool" = none) (z_isinstance : mg "isinstance" = none) (z_int : mg "int" = none) : Cal P w K mg base 1 "in_range" (spP ⟨K, mg⟩ f_in_range) := by
  obtain ⟨f, fd, F, hm, hb⟩ := F
  refine Cal.mkP F hm sc_in_range hb rfl rfl fun X W e1 e2 e3 e4 e5 b => ?_
  subst e1 e2 e3 e4 e5
  have nd := sc_in_range.nd
  have g_bool := b.gl "bool" (by decide +kernel)
  have g_isinstance := b.gl "isinstance" (by decide +kernel)
  have g_int := b.gl "int" (by decide +kernel)
  have v1 := fun {pos : Pos} => b.v (pos := pos) 1 "least" (by decide +kernel)
  have v0 := fun {pos : Pos} => b.v (pos := pos) 0 "value" (by decide +kernel)
  have v2 := fun {pos : Pos} => b.v (pos := pos) 2 "greatest" (by decide +kernel)
  exact (Ss.one (St.ret (E.and (E.callB call_isi cf_isi g_isinstance z_isinstance (by decide +kernel) (A.cons v0 (A.cons (E.ty g_int z_int (by decide +kernel)) A.nil))) (E.and (E.not (E.callB call_isi cf_isi g_isinstance z_isinstance (by decide +kernel) (A.cons v0 (A.cons (E.ty g_bool z_bool (by decide +kernel)) A.nil)))) (E.one (E.chain op_le op_le opf_B0 opf_B0 v1 v0 v2))))))
theorem sc_is_word : FnScope ["value", "letter"] ["value"] (defScope (topS 22)) := ⟨rfl, rfl, rfl, by decide +kernel, rfl, by decide +kernel, by decide +kernel⟩
theorem d_is_word {P : Program} {w : World} {K : PySem.W.Frag} {mg : Str → Option Value} {base : Heap} (F : DefAt K mg "is_word" (topS 22) ["value"]) (z_len : mg "len" = none) (z_str : mg "str" = none) (z_isinstance : mg "isinstance" = none) (k_LETTERS : ∃ t, mg "LETTERS" = some (.str c_LETTERS t)) : Cal P w K mg base 1 "is_word" (spP ⟨K, mg⟩ f_is_word) := by
  obtain ⟨f, fd, F, hm, hb⟩ := F
  refine Cal.mkP F hm sc_is_word hb rfl rfl fun X W e1 e2 e3 e4 e5 b => ?_
  subst e1 e2 e3 e4 e5
  have nd := sc_is_word.nd
  have g_len := b.gl "len" (by decide +kernel)
  have g_str := b.gl "str" (by decide +kernel)
  have g_isinstance := b.gl "isinstance" (by decide +kernel)
  have g_LETTERS := b.gl "LETTERS" (by decide +kernel)
  have v0 := fun {pos : Pos} => b.v (pos := pos) 0 "value" (by decide +kernel)
  have v1 := fun {pos : Pos} => b.v (pos := pos) 1 "letter" (by decide +kernel)
  have t1 := fun {pos : Pos} => b.t (pos := pos) nd 1 "letter" (by decide +kernel)
  exact (Ss.cons (St.ite (BW.t (BW.or (B.not (B.tru (E.callB call_isi cf_isi g_isinstance z_isinstance (by decide +kernel) (A.cons v0 (A.cons (E.ty g_str z_str (by decide +kernel)) A.nil))))) (BW.or1 (B.not (B.chain op_le op_le opf_B0 opf_B0 E.int (E.callB cr_len cf_len g_len z_len (by decide +kernel) (A.cons v0 A.nil)) E.int))))) (Ss.one (St.ret E.bl)) Ss.nil)
  (Ss.cons (St.for b.po b.calm (I.any v0) t1 (Ss.one (St.ite (B.cmp (or_nin b.hu65) opf_nin v1 (E.gstr g_LETTERS k_LETTERS) (by with_unfolding_all rfl)) (Ss.one (St.ret E.bl)) Ss.nil)))
  (Ss.one (St.ret E.bl))))
theorem sc_fits_form : FnScope ["value"] ["value"] (defScope (topS 23)) := ⟨rfl, rfl, rfl, by decide +kernel, rfl, by decide +kernel, by decide +kernel⟩
theorem d_fits_form {P : Program} {w : World} {K : PySem.W.Frag} {mg : Str → Option Value} {base : Heap} (F : DefAt K mg "fits_form" (topS 23) ["value"]) (c_in_range : Cal P w K mg base 1 "in_range" (spP ⟨K, mg⟩ f_in_range)) (c_is_word : Cal P w K mg base 1 "is_word" (spP ⟨K, mg⟩ f_is_word)) (z_str : mg "str" = none) (z_isinstance : mg "isinstance" = none) (z_len : mg "len" = none) (z_tuple : mg "tuple" = none) (k_PLAIN : WTup K mg "PLAIN" c_PLAIN) (k_GREATEST : ∃ t, mg "GREATEST" = some (.int c_GREATEST t)) (k_NAMED : WTup K mg "NAMED" c_NAMED) (z_bool : mg "bool" = none) (z_int : mg "int" = none) (k_JUMPS : WTup K mg "JUMPS" c_JUMPS) : Cal P w K mg base 2 "fits_form" (spP ⟨K, mg⟩ f_fits_form) := by
  obtain ⟨f, fd, F, hm, hb⟩ := F
  refine Cal.mkP F hm sc_fits_form hb rfl rfl fun X W e1 e2 e3 e4 e5 b => ?_
  subst e1 e2 e3 e4 e5
  have nd := sc_fits_form.nd
  have g_str := b.gl "str" (by decide +kernel)
  have g_isinstance := b.gl "isinstance" (by decide +kernel)
  have g_len := b.gl "len" (by decide +kernel)
  have g_tuple := b.gl "tuple" (by decide +kernel)
  have g_PLAIN := b.gl "PLAIN" (by decide +kernel)
  have g_GREATEST := b.gl "GREATEST" (by decide +kernel)
  have g_in_range := b.gl "in_range" (by decide +kernel)
  have g_NAMED := b.gl "NAMED" (by decide +kernel)
  have g_is_word := b.gl "is_word" (by decide +kernel)
  have g_bool := b.gl "bool" (by decide +kernel)
  have g_int := b.gl "int" (by decide +kernel)
  have g_JUMPS := b.gl "JUMPS" (by decide +kernel)
  have v0 := fun {pos : Pos} => b.v (pos := pos) 0 "value" (by decide +kernel)
  exact (Ss.cons (St.ite (BW.t (BW.or (B.not (B.tru (E.callB call_isi cf_isi g_isinstance z_isinstance (by decide +kernel) (A.cons v0 (A.cons (E.ty g_tuple z_tuple (by decide +kernel)) A.nil))))) (BW.or (B.not (B.chain op_le op_le opf_B0 opf_B0 E.int (E.callB cr_len cf_len g_len z_len (by decide +kernel) (A.cons v0 A.nil)) E.int)) (BW.or1 (B.not (B.tru (E.callB call_isi cf_isi g_isinstance z_isinstance (by decide +kernel) (A.cons (E.ix v0 E.int) (A.cons (E.ty g_str z_str (by decide +kernel)) A.nil))))))))) (Ss.one (St.ret E.bl)) Ss.nil)
  (Ss.cons (St.ite (B.eq b.hu (E.callB cr_len cf_len g_len z_len (by decide +kernel) (A.cons v0 A.nil)) E.int) (Ss.one (St.ret (E.cmp (or_in b.hu65) opf_in (E.ix v0 E.int) (E.gtup g_PLAIN k_PLAIN) (by with_unfolding_all rfl)))) Ss.nil)
  (Ss.cons (St.ite (B.eq b.hu (E.ix v0 E.int) E.str) (Ss.one (St.ret (E.call c_in_range b.room b.tk g_in_range (A.cons (E.ix v0 E.int) (A.cons (E.neg un_neg (E.gint g_GREATEST k_GREATEST)) (A.cons (E.gint g_GREATEST k_GREATEST) A.nil)))))) Ss.nil)
  (Ss.cons (St.ite (B.cmp (or_in b.hu65) opf_in (E.ix v0 E.int) (E.gtup g_NAMED k_NAMED) (by with_unfolding_all rfl)) (Ss.one (St.ret (E.call c_is_word b.room b.tk g_is_word (A.cons (E.ix v0 E.int) A.nil)))) Ss.nil)
  (Ss.one (St.ret (E.and (E.cmp (or_in b.hu65) opf_in (E.ix v0 E.int) (E.gtup g_JUMPS k_JUMPS) (by with_unfolding_all rfl)) (E.and (E.callB call_isi cf_isi g_isinstance z_isinstance (by decide +kernel) (A.cons (E.ix v0 E.int) (A.cons (E.ty g_int z_int (by decide +kernel)) A.nil))) (E.and (E.not (E.callB call_isi cf_isi g_isinstance z_isinstance (by decide +kernel) (A.cons (E.ix v0 E.int) (A.cons (E.ty g_bool z_bool (by decide +kernel)) A.nil)))) (E.one (E.ge (E.ix v0 E.int) E.int)))))))))))
theorem sc_is_handler : FnScope ["value", "many", "start", "end", "target", "depth", "kind"] ["value", "many"] (defScope (topS 24)) := ⟨rfl, rfl, rfl, by decide +kernel, rfl, by decide +kernel, by decide +kernel⟩
theorem d_is_handler {P : Program} {w : World} {K : PySem.W.Frag} {mg : Str → Option Value} {base : Heap} (F : DefAt K mg "is_handler" (topS 24) ["value", "many"]) (c_in_range : Cal P w K mg base 1 "in_range" (spP ⟨K, mg⟩ f_in_range)) (c_is_word : Cal P w K mg base 1 "is_word" (spP ⟨K, mg⟩ f_is_word)) (z_len : mg "len" = none) (z_tuple : mg "tuple" = none) (z_isinstance : mg "isinstance" = none) (k_MOST : ∃ t, mg "MOST" = some (.int c_MOST t)) : Cal P w K mg base 2 "is_handler" (spP ⟨K, mg⟩ f_is_handler) := by
  obtain ⟨f, fd, F, hm, hb⟩ := F
  refine Cal.mkP F hm sc_is_handler hb rfl rfl fun X W e1 e2 e3 e4 e5 b => ?_
  subst e1 e2 e3 e4 e5
  have nd := sc_is_handler.nd
  have g_len := b.gl "len" (by decide +kernel)
  have g_tuple := b.gl "tuple" (by decide +kernel)
  have g_isinstance := b.gl "isinstance" (by decide +kernel)
  have g_in_range := b.gl "in_range" (by decide +kernel)
  have g_is_word := b.gl "is_word" (by decide +kernel)
  have g_MOST := b.gl "MOST" (by decide +kernel)
  have v0 := fun {pos : Pos} => b.v (pos := pos) 0 "value" (by decide +kernel)
  have v2 := fun {pos : Pos} => b.v (pos := pos) 2 "start" (by decide +kernel)
  have v3 := fun {pos : Pos} => b.v (pos := pos) 3 "end" (by decide +kernel)
  have v1 := fun {pos : Pos} => b.v (pos := pos) 1 "many" (by decide +kernel)
  have v6 := fun {pos : Pos} => b.v (pos := pos) 6 "kind" (by decide +kernel)
  have v5 := fun {pos : Pos} => b.v (pos := pos) 5 "depth" (by decide +kernel)
  have v4 := fun {pos : Pos} => b.v (pos := pos) 4 "target" (by decide +kernel)
  exact (Ss.cons (St.ite (BW.t (BW.or (B.not (B.tru (E.callB call_isi cf_isi g_isinstance z_isinstance (by decide +kernel) (A.cons v0 (A.cons (E.ty g_tuple z_tuple (by decide +kernel)) A.nil))))) (BW.or1 (B.ne b.hu (E.callB cr_len cf_len g_len z_len (by decide +kernel) (A.cons v0 A.nil)) E.int)))) (Ss.one (St.ret E.bl)) Ss.nil)
  (Ss.cons (St.asg v0 (Tg.un b.calm (gns_cons (b.pg nd 2 "start" (by decide +kernel)) (gns_cons (b.pg nd 3 "end" (by decide +kernel)) (gns_cons (b.pg nd 4 "target" (by decide +kernel)) (gns_cons (b.pg nd 5 "depth" (by decide +kernel)) (gns_cons (b.pg nd 6 "kind" (by decide +kernel)) gns_nil)))))))
  (Ss.cons (St.ite (BW.t (BW.or (B.not (B.tru (E.call c_in_range b.room b.tk g_in_range (A.cons v2 (A.cons E.int (A.cons (E.sub v1 E.int) A.nil)))))) (BW.or (B.not (B.tru (E.call c_in_range b.room b.tk g_in_range (A.cons v3 (A.cons E.int (A.cons v1 A.nil)))))) (BW.or1 (B.ge v2 v3))))) (Ss.one (St.ret E.bl)) Ss.nil)
  (Ss.one (St.ret (E.and (E.call c_in_range b.room b.tk g_in_range (A.cons v4 (A.cons E.int (A.cons (E.sub v1 E.int) A.nil)))) (E.and (E.call c_in_range b.room b.tk g_in_range (A.cons v5 (A.cons E.int (A.cons (E.gint g_MOST k_MOST) A.nil)))) (E.one (E.or (E.isN v6) (E.one (E.call c_is_word b.room b.tk g_is_word (A.cons v6 A.nil))))))))))))
theorem sc_raised_kind : FnScope ["instruction"] ["instruction"] (defScope (topS 25)) := ⟨rfl, rfl, rfl, by decide +kernel, rfl, by decide +kernel, by decide +kernel⟩
theorem d_raised_kind {P : Program} {w : World} {K : PySem.W.Frag} {mg : Str → Option Value} {base : Heap} (F : DefAt K mg "raised_kind" (topS 25) ["instruction"])  : Cal P w K mg base 1 "raised_kind" (spP ⟨K, mg⟩ f_raised_kind) := by
  obtain ⟨f, fd, F, hm, hb⟩ := F
  refine Cal.mkP F hm sc_raised_kind hb rfl rfl fun X W e1 e2 e3 e4 e5 b => ?_
  subst e1 e2 e3 e4 e5
  have nd := sc_raised_kind.nd
  have v0 := fun {pos : Pos} => b.v (pos := pos) 0 "instruction" (by decide +kernel)
  exact (Ss.cons (St.ite (B.eq b.hu (E.ix v0 E.int) E.str) (Ss.one (St.ret E.str)) Ss.nil)
  (Ss.cons (St.ite (B.eq b.hu (E.ix v0 E.int) E.str) (Ss.one (St.ret E.str)) Ss.nil)
  (Ss.cons (St.ite (B.eq b.hu (E.ix v0 E.int) E.str) (Ss.one (St.ret (E.ix v0 E.int))) Ss.nil)
  (Ss.one (St.ret E.non)))))
theorem sc_receiver : FnScope ["handlers", "index", "kind", "handler"] ["handlers", "index", "kind"] (defScope (topS 26)) := ⟨rfl, rfl, rfl, by decide +kernel, rfl, by decide +kernel, by decide +kernel⟩
theorem d_receiver {P : Program} {w : World} {K : PySem.W.Frag} {mg : Str → Option Value} {base : Heap} (F : DefAt K mg "receiver" (topS 26) ["handlers", "index", "kind"])  : Cal P w K mg base 1 "receiver" (spP ⟨K, mg⟩ f_receiver) := by
  obtain ⟨f, fd, F, hm, hb⟩ := F
  refine Cal.mkP F hm sc_receiver hb rfl rfl fun X W e1 e2 e3 e4 e5 b => ?_
  subst e1 e2 e3 e4 e5
  have nd := sc_receiver.nd
  have v0 := fun {pos : Pos} => b.v (pos := pos) 0 "handlers" (by decide +kernel)
  have v3 := fun {pos : Pos} => b.v (pos := pos) 3 "handler" (by decide +kernel)
  have v2 := fun {pos : Pos} => b.v (pos := pos) 2 "kind" (by decide +kernel)
  have v1 := fun {pos : Pos} => b.v (pos := pos) 1 "index" (by decide +kernel)
  have t3 := fun {pos : Pos} => b.t (pos := pos) nd 3 "handler" (by decide +kernel)
  exact (Ss.cons (St.for b.po b.calm (I.any v0) t3 (Ss.one (St.ite (BW.t (BW.and (B.chain op_le op_lt opf_B0 opf_B0 (E.ix v3 E.int) v1 (E.ix v3 E.int)) (BW.and1 (BW.t (BW.or (B.isN (E.ix v3 E.int)) (BW.or1 (B.eq b.hu (E.ix v3 E.int) v2))))))) (Ss.one (St.ret v3)) Ss.nil)))
  (Ss.one (St.ret E.non)))
theorem sc_moves : FnScope ["code", "handlers", "index", "found", "word", "kind", "handler"] ["code", "handlers", "index"] (defScope (topS 28)) := ⟨rfl, rfl, rfl, by decide +kernel, rfl, by decide +kernel, by decide +kernel⟩
theorem d_moves {P : Program} {w : World} {K : PySem.W.Frag} {mg : Str → Option Value} {base : Heap} (F : DefAt K mg "moves" (topS 28) ["code", "handlers", "index"]) (c_raised_kind : Cal P w K mg base 1 "raised_kind" (spP ⟨K, mg⟩ f_raised_kind)) (c_receiver : Cal P w K mg base 1 "receiver" (spP ⟨K, mg⟩ f_receiver)) (z_len : mg "len" = none) (k_LAST : WTup K mg "LAST" c_LAST) (k_JUMPS : WTup K mg "JUMPS" c_JUMPS) : Cal P w K mg base 2 "moves" (spP ⟨K, mg⟩ f_moves) := by
  obtain ⟨f, fd, F, hm, hb⟩ := F
  refine Cal.mkP F hm sc_moves hb rfl rfl fun X W e1 e2 e3 e4 e5 b => ?_
  subst e1 e2 e3 e4 e5
  have nd := sc_moves.nd
  have g_len := b.gl "len" (by decide +kernel)
  have g_LAST := b.gl "LAST" (by decide +kernel)
  have g_JUMPS := b.gl "JUMPS" (by decide +kernel)
  have g_raised_kind := b.gl "raised_kind" (by decide +kernel)
  have g_receiver := b.gl "receiver" (by decide +kernel)
  have v0 := fun {pos : Pos} => b.v (pos := pos) 0 "code" (by decide +kernel)
  have v2 := fun {pos : Pos} => b.v (pos := pos) 2 "index" (by decide +kernel)
  have v4 := fun {pos : Pos} => b.v (pos := pos) 4 "word" (by decide +kernel)
  have v3 := fun {pos : Pos} => b.v (pos := pos) 3 "found" (by decide +kernel)
  have v5 := fun {pos : Pos} => b.v (pos := pos) 5 "kind" (by decide +kernel)
  have v1 := fun {pos : Pos} => b.v (pos := pos) 1 "handlers" (by decide +kernel)
  have v6 := fun {pos : Pos} => b.v (pos := pos) 6 "handler" (by decide +kernel)
  exact (Ss.cons (b.set nd 3 "found" (by decide +kernel) (E.lst true A.nil))
  (Ss.cons (b.set nd 4 "word" (by decide +kernel) (E.ix (E.ix v0 v2) E.int))
  (Ss.cons (St.ite (BW.t (BW.and (B.cmp (or_nin b.hu65) opf_nin v4 (E.gtup g_LAST k_LAST) (by with_unfolding_all rfl)) (BW.and1 (B.lt (E.add false v2 E.int) (E.callB cr_len cf_len g_len z_len (by decide +kernel) (A.cons v0 A.nil)))))) (Ss.one (St.expr (E.bm PySem.F.plainAttrs_list PySem.F.slot_list_append PySem.F.type_list_append mt_append mtf_append v3 (A.cons (E.tup (A.cons (E.add false v2 E.int) (A.cons E.non A.nil))) A.nil)))) Ss.nil)
  (Ss.cons (St.ite (B.cmp (or_in b.hu65) opf_in v4 (E.gtup g_JUMPS k_JUMPS) (by with_unfolding_all rfl)) (Ss.one (St.expr (E.bm PySem.F.plainAttrs_list PySem.F.slot_list_append PySem.F.type_list_append mt_append mtf_append v3 (A.cons (E.tup (A.cons (E.ix (E.ix v0 v2) E.int) (A.cons E.non A.nil))) A.nil)))) Ss.nil)
  (Ss.cons (b.set nd 5 "kind" (by decide +kernel) (E.call c_raised_kind b.room b.tk g_raised_kind (A.cons (E.ix v0 v2) A.nil)))
  (Ss.cons (St.ite (B.notN v5) (Ss.cons (b.set nd 6 "handler" (by decide +kernel) (E.call c_receiver b.room b.tk g_receiver (A.cons v1 (A.cons v2 (A.cons v5 A.nil)))))
  (Ss.one (St.ite (B.notN v6) (Ss.one (St.expr (E.bm PySem.F.plainAttrs_list PySem.F.slot_list_append PySem.F.type_list_append mt_append mtf_append v3 (A.cons (E.tup (A.cons (E.ix v6 E.int) (A.cons v6 A.nil))) A.nil)))) Ss.nil))) Ss.nil)
  (Ss.one (St.ret v3))))))))
theorem sc_check_parts : FnScope ["code", "lines", "handlers", "index", "value", "instruction", "handler"] ["code", "lines", "handlers"] (defScope (topS 29)) := ⟨rfl, rfl, rfl, by decide +kernel, rfl, by decide +kernel, by decide +kernel⟩
theorem d_check_parts {P : Program} {w : World} {K : PySem.W.Frag} {mg : Str → Option Value} {base : Heap} (F : DefAt K mg "check_parts" (topS 29) ["code", "lines", "handlers"]) (c_fits_form : Cal P w K mg base 2 "fits_form" (spP ⟨K, mg⟩ f_fits_form)) (c_is_handler : Cal P w K mg base 2 "is_handler" (spP ⟨K, mg⟩ f_is_handler)) (c_in_range : Cal P w K mg base 1 "in_range" (spP ⟨K, mg⟩ f_in_range)) (z_len : mg "len" = none) (k_MOST : ∃ t, mg "MOST" = some (.int c_MOST t)) (x_BadCode : ExcC K mg "BadCode" (He.ga K "BadCode")) (z_enumerate : mg "enumerate" = none) (x_BadInstruction : ExcI P w K mg base "BadInstruction" "index" (He.ga K "BadInstruction")) (k_JUMPS : WTup K mg "JUMPS" c_JUMPS) (x_BadTarget : ExcI P w K mg base "BadTarget" "index" (He.ga K "BadTarget")) (z_max : mg "max" = none) (z_range : mg "range" = none) (k_LINES : ∃ t, mg "LINES" = some (.int c_LINES t)) (x_BadLine : ExcI P w K mg base "BadLine" "index" (He.ga K "BadLine")) (x_BadHandler : ExcI P w K mg base "BadHandler" "index" (He.ga K "BadHandler")) (k_LAST : WTup K mg "LAST" c_LAST) (x_FallsOff : ExcC K mg "FallsOff" (He.ga K "FallsOff")) : Cal P w K mg base 3 "check_parts" (spP ⟨K, mg⟩ f_check_parts) := by
  obtain ⟨f, fd, F, hm, hb⟩ := F
  refine Cal.mkP F hm sc_check_parts hb rfl rfl fun X W e1 e2 e3 e4 e5 b => ?_
  subst e1 e2 e3 e4 e5
  have nd := sc_check_parts.nd
  have g_len := b.gl "len" (by decide +kernel)
  have g_MOST := b.gl "MOST" (by decide +kernel)
  have g_BadCode := b.gl "BadCode" (by decide +kernel)
  have g_enumerate := b.gl "enumerate" (by decide +kernel)
  have g_fits_form := b.gl "fits_form" (by decide +kernel)
  have g_BadInstruction := b.gl "BadInstruction" (by decide +kernel)
  have g_JUMPS := b.gl "JUMPS" (by decide +kernel)
  have g_BadTarget := b.gl "BadTarget" (by decide +kernel)
  have g_max := b.gl "max" (by decide +kernel)
  have g_range := b.gl "range" (by decide +kernel)
  have g_LINES := b.gl "LINES" (by decide +kernel)
  have g_in_range := b.gl "in_range" (by decide +kernel)
  have g_BadLine := b.gl "BadLine" (by decide +kernel)
  have g_is_handler := b.gl "is_handler" (by decide +kernel)
  have g_BadHandler := b.gl "BadHandler" (by decide +kernel)
  have g_LAST := b.gl "LAST" (by decide +kernel)
  have g_FallsOff := b.gl "FallsOff" (by decide +kernel)
  have v0 := fun {pos : Pos} => b.v (pos := pos) 0 "code" (by decide +kernel)
  have v4 := fun {pos : Pos} => b.v (pos := pos) 4 "value" (by decide +kernel)
  have v3 := fun {pos : Pos} => b.v (pos := pos) 3 "index" (by decide +kernel)
  have v5 := fun {pos : Pos} => b.v (pos := pos) 5 "instruction" (by decide +kernel)
  have v1 := fun {pos : Pos} => b.v (pos := pos) 1 "lines" (by decide +kernel)
  have v2 := fun {pos : Pos} => b.v (pos := pos) 2 "handlers" (by decide +kernel)
  have v6 := fun {pos : Pos} => b.v (pos := pos) 6 "handler" (by decide +kernel)
  have t3 := fun {pos : Pos} => b.t (pos := pos) nd 3 "index" (by decide +kernel)
  exact (Ss.cons (St.ite (B.not (B.chain op_le op_le opf_B0 opf_B0 E.int (E.callB cr_len cf_len g_len z_len (by decide +kernel) (A.cons v0 A.nil)) (E.gint g_MOST k_MOST))) (Ss.one (St.raise0 b.calm b.tk x_BadCode g_BadCode)) Ss.nil)
  (Ss.cons (St.for b.po b.calm (I.enum2 g_enumerate z_enumerate v0) (Tg.un b.calm (gns_cons (b.pg nd 3 "index" (by decide +kernel)) (gns_cons (b.pg nd 4 "value" (by decide +kernel)) gns_nil))) (Ss.one (St.ite (B.not (B.tru (E.call c_fits_form b.room b.tk g_fits_form (A.cons v4 A.nil)))) (Ss.one (St.raise1 b.calm b.tk x_BadInstruction b.room (by decide) g_BadInstruction (A.cons v3 A.nil))) Ss.nil)))
  (Ss.cons (St.for b.po b.calm (I.enum2 g_enumerate z_enumerate v0) (Tg.un b.calm (gns_cons (b.pg nd 3 "index" (by decide +kernel)) (gns_cons (b.pg nd 5 "instruction" (by decide +kernel)) gns_nil))) (Ss.one (St.ite (BW.t (BW.and (B.cmp (or_in b.hu65) opf_in (E.ix v5 E.int) (E.gtup g_JUMPS k_JUMPS) (by with_unfolding_all rfl)) (BW.and1 (B.ge (E.ix v5 E.int) (E.callB cr_len cf_len g_len z_len (by decide +kernel) (A.cons v0 A.nil)))))) (Ss.one (St.raise1 b.calm b.tk x_BadTarget b.room (by decide) g_BadTarget (A.cons v3 A.nil))) Ss.nil)))
  (Ss.cons (St.for b.po b.calm (I.r1 g_range z_range (A.cons (E.callB (call_max2 b.calm) cf_ii2 g_max z_max (by decide +kernel) (A.cons (E.callB cr_len cf_len g_len z_len (by decide +kernel) (A.cons v0 A.nil)) (A.cons (E.callB cr_len cf_len g_len z_len (by decide +kernel) (A.cons v1 A.nil)) A.nil))) A.nil)) t3 (Ss.one (St.ite (BW.t (BW.or (B.ge v3 (E.callB cr_len cf_len g_len z_len (by decide +kernel) (A.cons v0 A.nil))) (BW.or (B.ge v3 (E.callB cr_len cf_len g_len z_len (by decide +kernel) (A.cons v1 A.nil))) (BW.or1 (B.not (B.tru (E.call c_in_range b.room b.tk g_in_range (A.cons (E.ix v1 v3) (A.cons E.int (A.cons (E.gint g_LINES k_LINES) A.nil)))))))))) (Ss.one (St.raise1 b.calm b.tk x_BadLine b.room (by decide) g_BadLine (A.cons v3 A.nil))) Ss.nil)))
  (Ss.cons (St.for b.po b.calm (I.enum2 g_enumerate z_enumerate v2) (Tg.un b.calm (gns_cons (b.pg nd 3 "index" (by decide +kernel)) (gns_cons (b.pg nd 6 "handler" (by decide +kernel)) gns_nil))) (Ss.one (St.ite (B.not (B.tru (E.call c_is_handler b.room b.tk g_is_handler (A.cons v6 (A.cons (E.callB cr_len cf_len g_len z_len (by decide +kernel) (A.cons v0 A.nil)) A.nil))))) (Ss.one (St.raise1 b.calm b.tk x_BadHandler b.room (by decide) g_BadHandler (A.cons v3 A.nil))) Ss.nil)))
  (Ss.one (St.ite (B.cmp (or_nin b.hu65) opf_nin (E.ix (E.ix v0 (E.neg un_neg E.int)) E.int) (E.gtup g_LAST k_LAST) (by with_unfolding_all rfl)) (Ss.one (St.raise0 b.calm b.tk x_FallsOff g_FallsOff)) Ss.nil)))))))
theorem sc_depths_of : FnScope ["code", "handlers", "depths", "waiting", "index", "depth", "word", "after", "target", "handler", "wanted"] ["code", "handlers"] (defScope (topS 30)) := ⟨rfl, rfl, rfl, by decide +kernel, rfl, by decide +kernel, by decide +kernel⟩
theorem d_depths_of {P : Program} {w : World} {K : PySem.W.Frag} {mg : Str → Option Value} {base : Heap} (F : DefAt K mg "depths_of" (topS 30) ["code", "handlers"]) (c_moves : Cal P w K mg base 2 "moves" (spP ⟨K, mg⟩ f_moves)) (z_len : mg "len" = none) (p_REMOVED : WMap K w mg "REMOVED" c_REMOVED) (x_BadDepth : ExcC K mg "BadDepth" (He.ga K "BadDepth")) (p_PUSHED : WMap K w mg "PUSHED" c_PUSHED) (z_tuple : mg "tuple" = none) : Cal P w K mg base 3 "depths_of" (spP ⟨K, mg⟩ f_depths_of) := by
  obtain ⟨f, fd, F, hm, hb⟩ := F
  refine Cal.mkP F hm sc_depths_of hb rfl rfl fun X W e1 e2 e3 e4 e5 b => ?_
  subst e1 e2 e3 e4 e5
  have nd := sc_depths_of.nd
  have g_len := b.gl "len" (by decide +kernel)
  have g_REMOVED := b.gl "REMOVED" (by decide +kernel)
  have g_BadDepth := b.gl "BadDepth" (by decide +kernel)
  have g_PUSHED := b.gl "PUSHED" (by decide +kernel)
  have g_moves := b.gl "moves" (by decide +kernel)
  have g_tuple := b.gl "tuple" (by decide +kernel)
  have v0 := fun {pos : Pos} => b.v (pos := pos) 0 "code" (by decide +kernel)
  have v2 := fun {pos : Pos} => b.v (pos := pos) 2 "depths" (by decide +kernel)
  have v3 := fun {pos : Pos} => b.v (pos := pos) 3 "waiting" (by decide +kernel)
  have v4 := fun {pos : Pos} => b.v (pos := pos) 4 "index" (by decide +kernel)
  have v5 := fun {pos : Pos} => b.v (pos := pos) 5 "depth" (by decide +kernel)
  have v6 := fun {pos : Pos} => b.v (pos := pos) 6 "word" (by decide +kernel)
  have v1 := fun {pos : Pos} => b.v (pos := pos) 1 "handlers" (by decide +kernel)
  have v7 := fun {pos : Pos} => b.v (pos := pos) 7 "after" (by decide +kernel)
  have v9 := fun {pos : Pos} => b.v (pos := pos) 9 "handler" (by decide +kernel)
  have v10 := fun {pos : Pos} => b.v (pos := pos) 10 "wanted" (by decide +kernel)
  have v8 := fun {pos : Pos} => b.v (pos := pos) 8 "target" (by decide +kernel)
  exact (Ss.cons (b.set nd 2 "depths" (by decide +kernel) (E.mul true (E.lst false (A.cons E.non A.nil)) (E.callB cr_len cf_len g_len z_len (by decide +kernel) (A.cons v0 A.nil))))
  (Ss.cons (St.asg E.int (Tg.sub v2 E.int set_list set_lst))
  (Ss.cons (b.set nd 3 "waiting" (by decide +kernel) (E.lst true (A.cons E.int A.nil)))
  (Ss.cons (St.whl b.po (B.tru v3) (Ss.cons (b.set nd 4 "index" (by decide +kernel) (E.bm0 PySem.F.plainAttrs_list PySem.F.slot_list_pop PySem.F.type_list_pop mt_pop mtf_pop (fun h => pe_bm0 PySem.F.plainAttrs_list PySem.F.slot_list_pop PySem.F.type_list_pop mt_pop h) v3))
  (Ss.cons (b.set nd 5 "depth" (by decide +kernel) (E.ix v2 v4))
  (Ss.cons (b.set nd 6 "word" (by decide +kernel) (E.ix (E.ix v0 v4) E.int))
  (Ss.cons (St.ite (B.lt v5 (E.wget g_REMOVED p_REMOVED v6 E.int)) (Ss.one (St.raise0 b.calm b.tk x_BadDepth g_BadDepth)) Ss.nil)
  (Ss.cons (b.set nd 7 "after" (by decide +kernel) (E.add false (E.sub v5 (E.wget g_REMOVED p_REMOVED v6 E.int)) (E.wget g_PUSHED p_PUSHED v6 E.int)))
  (Ss.one (St.for b.po b.calm (I.any (E.call c_moves b.room b.tk g_moves (A.cons v0 (A.cons v1 (A.cons v4 A.nil))))) (Tg.un b.calm (gns_cons (b.pg nd 8 "target" (by decide +kernel)) (gns_cons (b.pg nd 9 "handler" (by decide +kernel)) gns_nil))) (Ss.cons (b.set nd 10 "wanted" (by decide +kernel) v7)
  (Ss.cons (St.ite (B.notN v9) (Ss.cons (b.set nd 10 "wanted" (by decide +kernel) (E.ix v9 E.int))
  (Ss.one (St.ite (B.lt v5 v10) (Ss.one (St.raise0 b.calm b.tk x_BadDepth g_BadDepth)) Ss.nil))) Ss.nil)
  (Ss.one (St.ite (B.isN (E.ix v2 v8)) (Ss.cons (St.asg v10 (Tg.sub v2 v8 set_list set_lst))
  (Ss.one (St.expr (E.bm PySem.F.plainAttrs_list PySem.F.slot_list_append PySem.F.type_list_append mt_append mtf_append v3 (A.cons v8 A.nil))))) (Ss.one (St.ite (B.ne b.hu (E.ix v2 v8) v10) (Ss.one (St.raise0 b.calm b.tk x_BadDepth g_BadDepth)) Ss.nil))))))))))))))
  (Ss.one (St.ret (E.callTy call_tuple_of cf_tuple g_tuple z_tuple (by decide +kernel) (A.cons v2 A.nil))))))))
theorem sc_Unit_init : FnScope ["self", "code", "lines", "handlers"] ["self", "code", "lines", "handlers"] (defScope (clsS (topS 31) 0)) := ⟨rfl, rfl, rfl, by decide +kernel, rfl, by decide +kernel, by decide +kernel⟩
theorem d_Unit_init {P : Program} {w : World} {K : PySem.W.Frag} {mg : Str → Option Value} {base : Heap} {dvs : List V} {f : Addr} {fd : FuncData} (F : FunD K "__init__" "Unit.__init__" (defArgs (clsS (topS 31) 0)) (defBody (clsS (topS 31) 0)) (defScope (clsS (topS 31) 0)) dvs [] f fd) (c_check_parts : Cal P w K mg base 3 "check_parts" (spP ⟨K, mg⟩ f_check_parts)) (c_depths_of : Cal P w K mg base 3 "depths_of" (spP ⟨K, mg⟩ f_depths_of)) (a_Unit_code : AttT K mg "Unit" "code") (z_tuple : mg "tuple" = none) (a_Unit_lines : AttT K mg "Unit" "lines") (a_Unit_handlers : AttT K mg "Unit" "handlers") (a_Unit_found_depths : AttT K mg "Unit" "found_depths") : FnOk P w K mg base (L2.CX P w) 4 f fd ["self", "code", "lines", "handlers"] (spI ⟨K, mg⟩ "Unit" i_Unit_init) := by
  refine fnI F sc_Unit_init rfl rfl fun X W e1 e2 e3 e4 e5 b => ?_
  subst e1 e2 e3 e4 e5
  have nd := sc_Unit_init.nd
  have g_check_parts := b.gl "check_parts" (by decide +kernel)
  have g_tuple := b.gl "tuple" (by decide +kernel)
  have g_depths_of := b.gl "depths_of" (by decide +kernel)
  have v1 := fun {pos : Pos} => b.v (pos := pos) 1 "code" (by decide +kernel)
  have v2 := fun {pos : Pos} => b.v (pos := pos) 2 "lines" (by decide +kernel)
  have v3 := fun {pos : Pos} => b.v (pos := pos) 3 "handlers" (by decide +kernel)
  have v0 := fun {pos : Pos} => b.v (pos := pos) 0 "self" (by decide +kernel)
  exact (Ss.cons (St.expr (E.call c_check_parts b.room b.tk g_check_parts (A.cons v1 (A.cons v2 (A.cons v3 A.nil)))))
  (Ss.cons (St.fld (atts_cons a_Unit_code atts_nil) v0 (E.callTy call_tuple_of cf_tuple g_tuple z_tuple (by decide +kernel) (A.cons v1 A.nil)))
  (Ss.cons (St.fld (atts_cons a_Unit_lines atts_nil) v0 (E.callTy call_tuple_of cf_tuple g_tuple z_tuple (by decide +kernel) (A.cons v2 A.nil)))
  (Ss.cons (St.fld (atts_cons a_Unit_handlers atts_nil) v0 (E.callTy call_tuple_of cf_tuple g_tuple z_tuple (by decide +kernel) (A.cons v3 A.nil)))
  (Ss.one (St.fld (atts_cons a_Unit_found_depths atts_nil) v0 (E.call c_depths_of b.room b.tk g_depths_of (A.cons (E.fld (atts_cons a_Unit_code atts_nil) v0) (A.cons (E.fld (atts_cons a_Unit_handlers atts_nil) v0) A.nil)))))))))
theorem sc_Unit_eq : FnScope ["self", "other"] ["self", "other"] (defScope (clsS (topS 31) 3)) := ⟨rfl, rfl, rfl, by decide +kernel, rfl, by decide +kernel, by decide +kernel⟩
theorem d_Unit_eq {P : Program} {w : World} {K : PySem.W.Frag} {mg : Str → Option Value} {base : Heap} {f : Addr} {fd : FuncData} (F : FunD K "__eq__" "Unit.__eq__" (defArgs (clsS (topS 31) 3)) (defBody (clsS (topS 31) 3)) (defScope (clsS (topS 31) 3)) [] [] f fd) (a_Unit_handlers : AttT K mg "Unit" "handlers") (a_Unit_lines : AttT K mg "Unit" "lines") (a_Unit_code : AttT K mg "Unit" "code") (is_Unit : IsoT K mg "Unit") (z_isinstance : mg "isinstance" = none) : FnOk P w K mg base (L2.CX P w) 1 f fd ["self", "other"] (spP ⟨K, mg⟩ f_Unit_eq) := by
  refine fnP F sc_Unit_eq rfl rfl fun X W e1 e2 e3 e4 e5 b => ?_
  subst e1 e2 e3 e4 e5
  have nd := sc_Unit_eq.nd
  have g_isinstance := b.gl "isinstance" (by decide +kernel)
  have g_Unit := b.gl "Unit" (by decide +kernel)
  have v0 := fun {pos : Pos} => b.v (pos := pos) 0 "self" (by decide +kernel)
  have v1 := fun {pos : Pos} => b.v (pos := pos) 1 "other" (by decide +kernel)
  exact (Ss.one (St.ret (E.and (E.callB call_isi (cf_iso is_Unit) g_isinstance z_isinstance (by decide +kernel) (A.cons v1 (A.cons (E.gcls g_Unit is_Unit.gg) A.nil))) (E.and (E.eq b.hu (E.fld (atts_cons a_Unit_code atts_nil) v0) (E.fld (atts_cons a_Unit_code atts_nil) v1)) (E.and (E.eq b.hu (E.fld (atts_cons a_Unit_lines atts_nil) v0) (E.fld (atts_cons a_Unit_lines atts_nil) v1)) (E.one (E.eq b.hu (E.fld (atts_cons a_Unit_handlers atts_nil) v0) (E.fld (atts_cons a_Unit_handlers atts_nil) v1))))))))
theorem sc_row_text : FnScope ["line", "instruction", "item"] ["line", "instruction"] (defScope (topS 34)) := ⟨rfl, rfl, rfl, by decide +kernel, rfl, by decide +kernel, by decide +kernel⟩
theorem d_row_text {P : Program} {w : World} {K : PySem.W.Frag} {mg : Str → Option Value} {base : Heap} (F : DefAt K mg "row_text" (topS 34) ["line", "instruction"]) (z_str : mg "str" = none) : Cal P w K mg base 1 "row_text" (spP ⟨K, mg⟩ f_row_text) := by
  obtain ⟨f, fd, F, hm, hb⟩ := F
  refine Cal.mkP F hm sc_row_text hb rfl rfl fun X W e1 e2 e3 e4 e5 b => ?_
  subst e1 e2 e3 e4 e5
  have nd := sc_row_text.nd
  have g_str := b.gl "str" (by decide +kernel)
  have v0 := fun {pos : Pos} => b.v (pos := pos) 0 "line" (by decide +kernel)
  have v1 := fun {pos : Pos} => b.v (pos := pos) 1 "instruction" (by decide +kernel)
  exact (Ss.one (St.ret (E.bm PySem.F.plainAttrs_str PySem.F.slot_str_join PySem.F.type_str_join mt_join mtf_join E.str (A.cons (E.add false (E.lst false (A.cons (E.callTy cr_str cf_str g_str z_str (by decide +kernel) (A.cons v0 A.nil)) A.nil)) (E.lc (own := [("item", 2)]) false b.calm (b.hN ▸ nd) (I.any v1) (b.blk (by decide +kernel)) (CG.name (by decide)) (fun _ _ _ _ _ => blk_pg b.hN b.sc nd 2 "item" (by decide +kernel)) (fun _ _ _ _ _ => Ts.nil) (fun _ _ _ _ _ => (E.callTy cr_str cf_str (b.bk.gl "str" (by decide +kernel)) z_str (by decide +kernel) (A.cons (b.bk.v 2 "item" (by decide +kernel)) A.nil))))) A.nil))))
theorem sc_handler_text : FnScope ["handler", "start", "end", "target", "depth", "kind"] ["handler"] (defScope (topS 35)) := ⟨rfl, rfl, rfl, by decide +kernel, rfl, by decide +kernel, by decide +kernel⟩
theorem d_handler_text {P : Program} {w : World} {K : PySem.W.Frag} {mg : Str → Option Value} {base : Heap} (F : DefAt K mg "handler_text" (topS 35) ["handler"])  : Cal P w K mg base 1 "handler_text" (spP ⟨K, mg⟩ f_handler_text) := by
  obtain ⟨f, fd, F, hm, hb⟩ := F
  refine Cal.mkP F hm sc_handler_text hb rfl rfl fun X W e1 e2 e3 e4 e5 b => ?_
  subst e1 e2 e3 e4 e5
  have nd := sc_handler_text.nd
  have v0 := fun {pos : Pos} => b.v (pos := pos) 0 "handler" (by decide +kernel)
  have v5 := fun {pos : Pos} => b.v (pos := pos) 5 "kind" (by decide +kernel)
  have v4 := fun {pos : Pos} => b.v (pos := pos) 4 "depth" (by decide +kernel)
  have v3 := fun {pos : Pos} => b.v (pos := pos) 3 "target" (by decide +kernel)
  have v2 := fun {pos : Pos} => b.v (pos := pos) 2 "end" (by decide +kernel)
  have v1 := fun {pos : Pos} => b.v (pos := pos) 1 "start" (by decide +kernel)
  exact (Ss.cons (St.asg v0 (Tg.un b.calm (gns_cons (b.pg nd 1 "start" (by decide +kernel)) (gns_cons (b.pg nd 2 "end" (by decide +kernel)) (gns_cons (b.pg nd 3 "target" (by decide +kernel)) (gns_cons (b.pg nd 4 "depth" (by decide +kernel)) (gns_cons (b.pg nd 5 "kind" (by decide +kernel)) gns_nil)))))))
  (Ss.cons (St.ite (B.isN v5) (Ss.one (b.set nd 5 "kind" (by decide +kernel) E.str)) Ss.nil)
  (Ss.one (St.ret (E.joined (Js.cons E.str (Js.cons (E.fmt v1) (Js.cons E.str (Js.cons (E.fmt v2) (Js.cons E.str (Js.cons (E.fmt v3) (Js.cons E.str (Js.cons (E.fmt v4) (Js.cons E.str (Js.cons (E.fmt v5) Js.nil)))))))))))))))
theorem sc_write : FnScope ["unit", "rows", "line", "instruction", "handler"] ["unit"] (defScope (topS 36)) := ⟨rfl, rfl, rfl, by decide +kernel, rfl, by decide +kernel, by decide +kernel⟩
theorem d_write {P : Program} {w : World} {K : PySem.W.Frag} {mg : Str → Option Value} {base : Heap} (F : DefAt K mg "write" (topS 36) ["unit"]) (c_row_text : Cal P w K mg base 1 "row_text" (spP ⟨K, mg⟩ f_row_text)) (c_handler_text : Cal P w K mg base 1 "handler_text" (spP ⟨K, mg⟩ f_handler_text)) (a_Unit_lines : AttT K mg "Unit" "lines") (a_Unit_code : AttT K mg "Unit" "code") (z_zip : mg "zip" = none) (a_Unit_handlers : AttT K mg "Unit" "handlers") : Cal P w K mg base 2 "write" (spP ⟨K, mg⟩ f_write) := by
  obtain ⟨f, fd, F, hm, hb⟩ := F
  refine Cal.mkP F hm sc_write hb rfl rfl fun X W e1 e2 e3 e4 e5 b => ?_
  subst e1 e2 e3 e4 e5
  have nd := sc_write.nd
  have g_zip := b.gl "zip" (by decide +kernel)
  have v0 := fun {pos : Pos} => b.v (pos := pos) 0 "unit" (by decide +kernel)
  have v1 := fun {pos : Pos} => b.v (pos := pos) 1 "rows" (by decide +kernel)
  exact (Ss.cons (Body.setLc (own := [("line", 2), ("instruction", 3)]) false b nd 1 "rows" (by decide +kernel) (I.zip2 g_zip z_zip (A.cons (E.fld (atts_cons a_Unit_lines atts_nil) v0) (A.cons (E.fld (atts_cons a_Unit_code atts_nil) v0) A.nil))) (by decide +kernel) (CG.tup (by decide) rfl) (fun _ _ _ _ _ => pg_tup b.calm (pgs_cons (blk_pg b.hN b.sc nd 2 "line" (by decide +kernel)) (pgs_cons (blk_pg b.hN b.sc nd 3 "instruction" (by decide +kernel)) pgs_nil))) (fun _ _ _ _ _ => Ts.nil) (fun _ _ _ _ _ => (E.call c_row_text b.room takes0 (b.bk.gl "row_text" (by decide +kernel)) (A.cons (b.bk.v 2 "line" (by decide +kernel)) (A.cons (b.bk.v 3 "instruction" (by decide +kernel)) A.nil)))))
  (Ss.one (St.ret (E.bm PySem.F.plainAttrs_str PySem.F.slot_str_join PySem.F.type_str_join mt_join mtf_join E.str (A.cons (E.add false v1 (E.lc (own := [("handler", 4)]) false b.calm (b.hN ▸ nd) (I.any (E.fld (atts_cons a_Unit_handlers atts_nil) v0)) (b.blk (by decide +kernel)) (CG.name (by decide)) (fun _ _ _ _ _ => blk_pg b.hN b.sc nd 4 "handler" (by decide +kernel)) (fun _ _ _ _ _ => Ts.nil) (fun _ _ _ _ _ => (E.call c_handler_text b.room takes0 (b.bk.gl "handler_text" (by decide +kernel)) (A.cons (b.bk.v 4 "handler" (by decide +kernel)) A.nil))))) A.nil)))))
theorem sc_number_of : FnScope ["word", "least", "greatest", "digits", "digit", "number"] ["word", "least", "greatest"] (defScope (topS 37)) := ⟨rfl, rfl, rfl, by decide +kernel, rfl, by decide +kernel, by decide +kernel⟩
theorem d_number_of {P : Program} {w : World} {K : PySem.W.Frag} {mg : Str → Option Value} {base : Heap} (F : DefAt K mg "number_of" (topS 37) ["word", "least", "greatest"]) (z_len : mg "len" = none) (k_FIGURES : ∃ t, mg "FIGURES" = some (.str c_FIGURES t)) (z_int : mg "int" = none) : Cal P w K mg base 1 "number_of" (spP ⟨K, mg⟩ f_number_of) := by
  obtain ⟨f, fd, F, hm, hb⟩ := F
  refine Cal.mkP F hm sc_number_of hb rfl rfl fun X W e1 e2 e3 e4 e5 b => ?_
  subst e1 e2 e3 e4 e5
  have nd := sc_number_of.nd
  have g_len := b.gl "len" (by decide +kernel)
  have g_FIGURES := b.gl "FIGURES" (by decide +kernel)
  have g_int := b.gl "int" (by decide +kernel)
  have v0 := fun {pos : Pos} => b.v (pos := pos) 0 "word" (by decide +kernel)
  have v1 := fun {pos : Pos} => b.v (pos := pos) 1 "least" (by decide +kernel)
  have v3 := fun {pos : Pos} => b.v (pos := pos) 3 "digits" (by decide +kernel)
  have v4 := fun {pos : Pos} => b.v (pos := pos) 4 "digit" (by decide +kernel)
  have v5 := fun {pos : Pos} => b.v (pos := pos) 5 "number" (by decide +kernel)
  have v2 := fun {pos : Pos} => b.v (pos := pos) 2 "greatest" (by decide +kernel)
  have t4 := fun {pos : Pos} => b.t (pos := pos) nd 4 "digit" (by decide +kernel)
  exact (Ss.cons (b.set nd 3 "digits" (by decide +kernel) v0)
  (Ss.cons (St.ite (BW.t (BW.and (B.eq b.hu (E.sl false v0 Po.none (Po.some E.int)) E.str) (BW.and1 (B.lt v1 E.int)))) (Ss.one (b.set nd 3 "digits" (by decide +kernel) (E.sl false v0 (Po.some E.int) Po.none))) Ss.nil)
  (Ss.cons (St.ite (BW.t (BW.or (B.eq b.hu v3 E.str) (BW.or1 (B.gt (E.callB cr_len cf_len g_len z_len (by decide +kernel) (A.cons v3 A.nil)) E.int)))) (Ss.one (St.ret E.non)) Ss.nil)
  (Ss.cons (St.for b.po b.calm (I.any v3) t4 (Ss.one (St.ite (B.cmp (or_nin b.hu65) opf_nin v4 (E.gstr g_FIGURES k_FIGURES) (by with_unfolding_all rfl)) (Ss.one (St.ret E.non)) Ss.nil)))
  (Ss.cons (St.ite (BW.t (BW.and (B.eq b.hu (E.ix v3 E.int) E.str) (BW.and1 (BW.t (BW.or (B.gt (E.callB cr_len cf_len g_len z_len (by decide +kernel) (A.cons v3 A.nil)) E.int) (BW.or1 (B.ne b.hu v3 v0))))))) (Ss.one (St.ret E.non)) Ss.nil)
  (Ss.cons (b.set nd 5 "number" (by decide +kernel) (E.callTy cr_int2 cf_int2 g_int z_int (by decide +kernel) (A.cons v0 A.nil)))
  (Ss.cons (St.ite (B.not (B.chain op_le op_le opf_B0 opf_B0 v1 v5 v2)) (Ss.one (St.ret E.non)) Ss.nil)
  (Ss.one (St.ret v5)))))))))
theorem sc_item_of : FnScope ["word", "text"] ["word", "text"] (defScope (topS 38)) := ⟨rfl, rfl, rfl, by decide +kernel, rfl, by decide +kernel, by decide +kernel⟩
theorem d_item_of {P : Program} {w : World} {K : PySem.W.Frag} {mg : Str → Option Value} {base : Heap} (F : DefAt K mg "item_of" (topS 38) ["word", "text"]) (c_is_word : Cal P w K mg base 1 "is_word" (spP ⟨K, mg⟩ f_is_word)) (c_number_of : Cal P w K mg base 1 "number_of" (spP ⟨K, mg⟩ f_number_of)) (k_GREATEST : ∃ t, mg "GREATEST" = some (.int c_GREATEST t)) (k_JUMPS : WTup K mg "JUMPS" c_JUMPS) : Cal P w K mg base 2 "item_of" (spP ⟨K, mg⟩ f_item_of) := by
  obtain ⟨f, fd, F, hm, hb⟩ := F
  refine Cal.mkP F hm sc_item_of hb rfl rfl fun X W e1 e2 e3 e4 e5 b => ?_
  subst e1 e2 e3 e4 e5
  have nd := sc_item_of.nd
  have g_GREATEST := b.gl "GREATEST" (by decide +kernel)
  have g_number_of := b.gl "number_of" (by decide +kernel)
  have g_JUMPS := b.gl "JUMPS" (by decide +kernel)
  have g_is_word := b.gl "is_word" (by decide +kernel)
  have v0 := fun {pos : Pos} => b.v (pos := pos) 0 "word" (by decide +kernel)
  have v1 := fun {pos : Pos} => b.v (pos := pos) 1 "text" (by decide +kernel)
  exact (Ss.cons (St.ite (B.eq b.hu v0 E.str) (Ss.one (St.ret (E.call c_number_of b.room b.tk g_number_of (A.cons v1 (A.cons (E.neg un_neg (E.gint g_GREATEST k_GREATEST)) (A.cons (E.gint g_GREATEST k_GREATEST) A.nil)))))) Ss.nil)
  (Ss.cons (St.ite (B.cmp (or_in b.hu65) opf_in v0 (E.gtup g_JUMPS k_JUMPS) (by with_unfolding_all rfl)) (Ss.one (St.ret (E.call c_number_of b.room b.tk g_number_of (A.cons v1 (A.cons E.int (A.cons (E.gint g_GREATEST k_GREATEST) A.nil)))))) Ss.nil)
  (Ss.cons (St.ite (B.tru (E.call c_is_word b.room b.tk g_is_word (A.cons v1 A.nil))) (Ss.one (St.ret v1)) Ss.nil)
  (Ss.one (St.ret E.non)))))
theorem sc_instruction_of : FnScope ["words", "row", "line", "word", "item"] ["words", "row"] (defScope (topS 39)) := ⟨rfl, rfl, rfl, by decide +kernel, rfl, by decide +kernel, by decide +kernel⟩
theorem d_instruction_of {P : Program} {w : World} {K : PySem.W.Frag} {mg : Str → Option Value} {base : Heap} (F : DefAt K mg "instruction_of" (topS 39) ["words", "row"]) (c_number_of : Cal P w K mg base 1 "number_of" (spP ⟨K, mg⟩ f_number_of)) (c_item_of : Cal P w K mg base 2 "item_of" (spP ⟨K, mg⟩ f_item_of)) (k_LINES : ∃ t, mg "LINES" = some (.int c_LINES t)) (x_BadText : ExcI2 P w K mg base "BadText" "row" "word" (He.ga K "BadText")) (z_len : mg "len" = none) (k_PLAIN : WTup K mg "PLAIN" c_PLAIN) (k_NAMED : WTup K mg "NAMED" c_NAMED) (k_JUMPS : WTup K mg "JUMPS" c_JUMPS) : Cal P w K mg base 3 "instruction_of" (spP ⟨K, mg⟩ f_instruction_of) := by
  obtain ⟨f, fd, F, hm, hb⟩ := F
  refine Cal.mkP F hm sc_instruction_of hb rfl rfl fun X W e1 e2 e3 e4 e5 b => ?_
  subst e1 e2 e3 e4 e5
  have nd := sc_instruction_of.nd
  have g_LINES := b.gl "LINES" (by decide +kernel)
  have g_number_of := b.gl "number_of" (by decide +kernel)
  have g_BadText := b.gl "BadText" (by decide +kernel)
  have g_len := b.gl "len" (by decide +kernel)
  have g_PLAIN := b.gl "PLAIN" (by decide +kernel)
  have g_NAMED := b.gl "NAMED" (by decide +kernel)
  have g_JUMPS := b.gl "JUMPS" (by decide +kernel)
  have g_item_of := b.gl "item_of" (by decide +kernel)
  have v0 := fun {pos : Pos} => b.v (pos := pos) 0 "words" (by decide +kernel)
  have v2 := fun {pos : Pos} => b.v (pos := pos) 2 "line" (by decide +kernel)
  have v1 := fun {pos : Pos} => b.v (pos := pos) 1 "row" (by decide +kernel)
  have v3 := fun {pos : Pos} => b.v (pos := pos) 3 "word" (by decide +kernel)
  have v4 := fun {pos : Pos} => b.v (pos := pos) 4 "item" (by decide +kernel)
  exact (Ss.cons (b.set nd 2 "line" (by decide +kernel) (E.call c_number_of b.room b.tk g_number_of (A.cons (E.ix v0 E.int) (A.cons E.int (A.cons (E.gint g_LINES k_LINES) A.nil)))))
  (Ss.cons (St.ite (B.isN v2) (Ss.one (St.raise2 b.calm b.tk x_BadText b.room (by decide) g_BadText (A.cons v1 (A.cons E.int A.nil)))) Ss.nil)
  (Ss.cons (b.set nd 3 "word" (by decide +kernel) E.str)
  (Ss.cons (St.ite (B.gt (E.callB cr_len cf_len g_len z_len (by decide +kernel) (A.cons v0 A.nil)) E.int) (Ss.one (b.set nd 3 "word" (by decide +kernel) (E.ix v0 E.int))) Ss.nil)
  (Ss.cons (St.ite (B.cmp (or_in b.hu65) opf_in v3 (E.gtup g_PLAIN k_PLAIN) (by with_unfolding_all rfl)) (Ss.cons (St.ite (B.gt (E.callB cr_len cf_len g_len z_len (by decide +kernel) (A.cons v0 A.nil)) E.int) (Ss.one (St.raise2 b.calm b.tk x_BadText b.room (by decide) g_BadText (A.cons v1 (A.cons E.int A.nil)))) Ss.nil)
  (Ss.one (St.ret (E.tup (A.cons v2 (A.cons (E.tup (A.cons v3 A.nil)) A.nil)))))) Ss.nil)
  (Ss.cons (St.ite (BW.t (BW.and (B.ne b.hu v3 E.str) (BW.and (B.cmp (or_nin b.hu65) opf_nin v3 (E.gtup g_JUMPS k_JUMPS) (by with_unfolding_all rfl)) (BW.and1 (B.cmp (or_nin b.hu65) opf_nin v3 (E.gtup g_NAMED k_NAMED) (by with_unfolding_all rfl)))))) (Ss.one (St.raise2 b.calm b.tk x_BadText b.room (by decide) g_BadText (A.cons v1 (A.cons E.int A.nil)))) Ss.nil)
  (Ss.cons (b.set nd 4 "item" (by decide +kernel) E.non)
  (Ss.cons (St.ite (B.gt (E.callB cr_len cf_len g_len z_len (by decide +kernel) (A.cons v0 A.nil)) E.int) (Ss.one (b.set nd 4 "item" (by decide +kernel) (E.call c_item_of b.room b.tk g_item_of (A.cons v3 (A.cons (E.ix v0 E.int) A.nil))))) Ss.nil)
  (Ss.cons (St.ite (B.isN v4) (Ss.one (St.raise2 b.calm b.tk x_BadText b.room (by decide) g_BadText (A.cons v1 (A.cons E.int A.nil)))) Ss.nil)
  (Ss.cons (St.ite (B.gt (E.callB cr_len cf_len g_len z_len (by decide +kernel) (A.cons v0 A.nil)) E.int) (Ss.one (St.raise2 b.calm b.tk x_BadText b.room (by decide) g_BadText (A.cons v1 (A.cons E.int A.nil)))) Ss.nil)
  (Ss.one (St.ret (E.tup (A.cons v2 (A.cons (E.tup (A.cons v3 (A.cons v4 A.nil))) A.nil)))))))))))))))
theorem sc_handler_of : FnScope ["words", "row", "items", "place", "kind", "item"] ["words", "row"] (defScope (topS 40)) := ⟨rfl, rfl, rfl, by decide +kernel, rfl, by decide +kernel, by decide +kernel⟩
theorem d_handler_of {P : Program} {w : World} {K : PySem.W.Frag} {mg : Str → Option Value} {base : Heap} (F : DefAt K mg "handler_of" (topS 40) ["words", "row"]) (c_number_of : Cal P w K mg base 1 "number_of" (spP ⟨K, mg⟩ f_number_of)) (c_is_word : Cal P w K mg base 1 "is_word" (spP ⟨K, mg⟩ f_is_word)) (z_range : mg "range" = none) (z_len : mg "len" = none) (k_GREATEST : ∃ t, mg "GREATEST" = some (.int c_GREATEST t)) (x_BadText : ExcI2 P w K mg base "BadText" "row" "word" (He.ga K "BadText")) (z_tuple : mg "tuple" = none) : Cal P w K mg base 3 "handler_of" (spP ⟨K, mg⟩ f_handler_of) := by
  obtain ⟨f, fd, F, hm, hb⟩ := F
  refine Cal.mkP F hm sc_handler_of hb rfl rfl fun X W e1 e2 e3 e4 e5 b => ?_
  subst e1 e2 e3 e4 e5
  have nd := sc_handler_of.nd
  have g_range := b.gl "range" (by decide +kernel)
  have g_len := b.gl "len" (by decide +kernel)
  have g_GREATEST := b.gl "GREATEST" (by decide +kernel)
  have g_number_of := b.gl "number_of" (by decide +kernel)
  have g_BadText := b.gl "BadText" (by decide +kernel)
  have g_is_word := b.gl "is_word" (by decide +kernel)
  have g_tuple := b.gl "tuple" (by decide +kernel)
  have v3 := fun {pos : Pos} => b.v (pos := pos) 3 "place" (by decide +kernel)
  have v0 := fun {pos : Pos} => b.v (pos := pos) 0 "words" (by decide +kernel)
  have v5 := fun {pos : Pos} => b.v (pos := pos) 5 "item" (by decide +kernel)
  have v1 := fun {pos : Pos} => b.v (pos := pos) 1 "row" (by decide +kernel)
  have v2 := fun {pos : Pos} => b.v (pos := pos) 2 "items" (by decide +kernel)
  have v4 := fun {pos : Pos} => b.v (pos := pos) 4 "kind" (by decide +kernel)
  have t3 := fun {pos : Pos} => b.t (pos := pos) nd 3 "place" (by decide +kernel)
  exact (Ss.cons (b.set nd 2 "items" (by decide +kernel) (E.lst true A.nil))
  (Ss.cons (St.for b.po b.calm (I.r2 g_range z_range (A.cons E.int (A.cons E.int A.nil))) t3 (Ss.cons (b.set nd 5 "item" (by decide +kernel) E.non)
  (Ss.cons (St.ite (B.lt v3 (E.callB cr_len cf_len g_len z_len (by decide +kernel) (A.cons v0 A.nil))) (Ss.one (b.set nd 5 "item" (by decide +kernel) (E.call c_number_of b.room b.tk g_number_of (A.cons (E.ix v0 v3) (A.cons E.int (A.cons (E.gint g_GREATEST k_GREATEST) A.nil)))))) Ss.nil)
  (Ss.cons (St.ite (B.isN v5) (Ss.one (St.raise2 b.calm b.tk x_BadText b.room (by decide) g_BadText (A.cons v1 (A.cons (E.add false v3 E.int) A.nil)))) Ss.nil)
  (Ss.one (St.expr (E.bm PySem.F.plainAttrs_list PySem.F.slot_list_append PySem.F.type_list_append mt_append mtf_append v2 (A.cons v5 A.nil))))))))
  (Ss.cons (St.ite (BW.t (BW.or (B.lt (E.callB cr_len cf_len g_len z_len (by decide +kernel) (A.cons v0 A.nil)) E.int) (BW.or1 (B.not (B.tru (E.call c_is_word b.room b.tk g_is_word (A.cons (E.ix v0 E.int) A.nil))))))) (Ss.one (St.raise2 b.calm b.tk x_BadText b.room (by decide) g_BadText (A.cons v1 (A.cons E.int A.nil)))) Ss.nil)
  (Ss.cons (St.ite (B.gt (E.callB cr_len cf_len g_len z_len (by decide +kernel) (A.cons v0 A.nil)) E.int) (Ss.one (St.raise2 b.calm b.tk x_BadText b.room (by decide) g_BadText (A.cons v1 (A.cons E.int A.nil)))) Ss.nil)
  (Ss.cons (b.set nd 4 "kind" (by decide +kernel) (E.ix v0 E.int))
  (Ss.cons (St.ite (B.eq b.hu v4 E.str) (Ss.one (b.set nd 4 "kind" (by decide +kernel) E.non)) Ss.nil)
  (Ss.one (St.ret (E.add false (E.callTy call_tuple_of cf_tuple g_tuple z_tuple (by decide +kernel) (A.cons v2 A.nil)) (E.tup (A.cons v4 A.nil)))))))))))
theorem sc_read : FnScope ["text", "code", "lines", "handlers", "at", "line", "words", "number", "instruction"] ["text"] (defScope (topS 41)) := ⟨rfl, rfl, rfl, by decide +kernel, rfl, by decide +kernel, by decide +kernel⟩
theorem d_read {P : Program} {w : World} {K : PySem.W.Frag} {mg : Str → Option Value} {base : Heap} (F : DefAt K mg "read" (topS 41) ["text"]) (c_handler_of : Cal P w K mg base 3 "handler_of" (spP ⟨K, mg⟩ f_handler_of)) (c_instruction_of : Cal P w K mg base 3 "instruction_of" (spP ⟨K, mg⟩ f_instruction_of)) (z_enumerate : mg "enumerate" = none) (x_BadText : ExcI2 P w K mg base "BadText" "row" "word" (He.ga K "BadText")) (mk3_Unit : Mka P w K mg base 4 "Unit" i_Unit_init 3 []) : Cal P w K mg base 6 "read" (spP ⟨K, mg⟩ f_read) := by
  obtain ⟨f, fd, F, hm, hb⟩ := F
  refine Cal.mkP F hm sc_read hb rfl rfl fun X W e1 e2 e3 e4 e5 b => ?_
  subst e1 e2 e3 e4 e5
  have nd := sc_read.nd
  have g_enumerate := b.gl "enumerate" (by decide +kernel)
  have g_handler_of := b.gl "handler_of" (by decide +kernel)
  have g_BadText := b.gl "BadText" (by decide +kernel)
  have g_instruction_of := b.gl "instruction_of" (by decide +kernel)
  have g_Unit := b.gl "Unit" (by decide +kernel)
  have v0 := fun {pos : Pos} => b.v (pos := pos) 0 "text" (by decide +kernel)
  have v5 := fun {pos : Pos} => b.v (pos := pos) 5 "line" (by decide +kernel)
  have v6 := fun {pos : Pos} => b.v (pos := pos) 6 "words" (by decide +kernel)
  have v3 := fun {pos : Pos} => b.v (pos := pos) 3 "handlers" (by decide +kernel)
  have v4 := fun {pos : Pos} => b.v (pos := pos) 4 "at" (by decide +kernel)
  have v2 := fun {pos : Pos} => b.v (pos := pos) 2 "lines" (by decide +kernel)
  have v7 := fun {pos : Pos} => b.v (pos := pos) 7 "number" (by decide +kernel)
  have v1 := fun {pos : Pos} => b.v (pos := pos) 1 "code" (by decide +kernel)
  have v8 := fun {pos : Pos} => b.v (pos := pos) 8 "instruction" (by decide +kernel)
  exact (Ss.cons (b.set nd 1 "code" (by decide +kernel) (E.lst true A.nil))
  (Ss.cons (b.set nd 2 "lines" (by decide +kernel) (E.lst true A.nil))
  (Ss.cons (b.set nd 3 "handlers" (by decide +kernel) (E.lst true A.nil))
  (Ss.cons (St.for b.po b.calm (I.enum2 g_enumerate z_enumerate (E.bm PySem.F.plainAttrs_str PySem.F.slot_str_split PySem.F.type_str_split mt_split mtf_split v0 (A.cons E.str A.nil))) (Tg.un b.calm (gns_cons (b.pg nd 4 "at" (by decide +kernel)) (gns_cons (b.pg nd 5 "line" (by decide +kernel)) gns_nil))) (Ss.cons (b.set nd 6 "words" (by decide +kernel) (E.bm PySem.F.plainAttrs_str PySem.F.slot_str_split PySem.F.type_str_split mt_split mtf_split v5 (A.cons E.str A.nil)))
  (Ss.one (St.ite (B.eq b.hu (E.ix v6 E.int) E.str) (Ss.one (St.expr (E.bm PySem.F.plainAttrs_list PySem.F.slot_list_append PySem.F.type_list_append mt_append mtf_append v3 (A.cons (E.call c_handler_of b.room b.tk g_handler_of (A.cons v6 (A.cons (E.add false v4 E.int) A.nil))) A.nil)))) (Ss.one (St.ite (B.tru v3) (Ss.one (St.raise2 b.calm b.tk x_BadText b.room (by decide) g_BadText (A.cons (E.add false v4 E.int) (A.cons E.int A.nil)))) (Ss.cons (St.asg (E.call c_instruction_of b.room b.tk g_instruction_of (A.cons v6 (A.cons (E.add false v4 E.int) A.nil))) (Tg.un b.calm (gns_cons (b.pg nd 7 "number" (by decide +kernel)) (gns_cons (b.pg nd 8 "instruction" (by decide +kernel)) gns_nil))))
  (Ss.cons (St.expr (E.bm PySem.F.plainAttrs_list PySem.F.slot_list_append PySem.F.type_list_append mt_append mtf_append v2 (A.cons v7 A.nil)))
  (Ss.one (St.expr (E.bm PySem.F.plainAttrs_list PySem.F.slot_list_append PySem.F.type_list_append mt_append mtf_append v1 (A.cons v8 A.nil))))))))))))
  (Ss.one (St.ret (E.make mk3_Unit b.room b.tk g_Unit (A.cons v1 (A.cons v2 (A.cons v3 A.nil))))))))))
theorem sc_law_begin : FnScope ["_law_script"] ["_law_script"] (defScope (topS 43)) := ⟨rfl, rfl, rfl, by decide +kernel, rfl, by decide +kernel, by decide +kernel⟩
theorem d_law_begin {P : Program} {w : World} {K : PySem.W.Frag} {mg : Str → Option Value} {base : Heap} (F : DefAt K mg "_law_begin" (topS 43) ["_law_script"]) (z_list : mg "list" = none) : Cal P w K mg base 1 "_law_begin" (spW ⟨K, mg⟩ f_law_begin) := by
  obtain ⟨f, fd, F, hm, hb⟩ := F
  refine Cal.mkW F hm sc_law_begin hb rfl rfl fun X W e1 e2 e3 e4 e5 b => ?_
  subst e1 e2 e3 e4 e5
  have nd := sc_law_begin.nd
  have g_list := b.gl "list" (by decide +kernel)
  have v0 := fun {pos : Pos} => b.v (pos := pos) 0 "_law_script" (by decide +kernel)
  exact (Ss.one (St.ret (E.lst true (A.cons (E.callTy call_list_of (cf_list (mu := false)) g_list z_list (by decide +kernel) (A.cons v0 A.nil)) (A.cons E.int (A.cons E.int (A.cons E.int A.nil)))))))
theorem sc_law_draw : FnScope ["_law_draws", "_law_many", "_law_found", "_law_cell"] ["_law_draws", "_law_many"] (defScope (topS 44)) := ⟨rfl, rfl, rfl, by decide +kernel, rfl, by decide +kernel, by decide +kernel⟩
theorem d_law_draw {P : Program} {w : World} {K : PySem.W.Frag} {mg : Str → Option Value} {base : Heap} (F : DefAt K mg "_law_draw" (topS 44) ["_law_draws", "_law_many"]) (z_len : mg "len" = none) (z_int : mg "int" = none) : Cal P w K mg base 1 "_law_draw" (spW ⟨K, mg⟩ f_law_draw) := by
  obtain ⟨f, fd, F, hm, hb⟩ := F
  refine Cal.mkW F hm sc_law_draw hb rfl rfl fun X W e1 e2 e3 e4 e5 b => ?_
  subst e1 e2 e3 e4 e5
  have nd := sc_law_draw.nd
  have g_len := b.gl "len" (by decide +kernel)
  have g_int := b.gl "int" (by decide +kernel)
  have v0 := fun {pos : Pos} => b.v (pos := pos) 0 "_law_draws" (by decide +kernel)
  have v3 := fun {pos : Pos} => b.v (pos := pos) 3 "_law_cell" (by decide +kernel)
  have v1 := fun {pos : Pos} => b.v (pos := pos) 1 "_law_many" (by decide +kernel)
  have v2 := fun {pos : Pos} => b.v (pos := pos) 2 "_law_found" (by decide +kernel)
  exact (Ss.cons (St.ite (B.eq b.hu (E.ix v0 E.int) E.int) (Ss.one (St.ite (B.lt (E.ix v0 E.int) (E.callB cr_len cf_len g_len z_len (by decide +kernel) (A.cons (E.ix v0 E.int) A.nil))) (Ss.cons (b.set nd 3 "_law_cell" (by decide +kernel) (E.ix (E.ix v0 E.int) (E.ix v0 E.int)))
  (Ss.cons (St.asg (E.add false (E.ix v0 E.int) E.int) (Tg.sub v0 E.int set_list set_lst))
  (Ss.one (St.ite (B.ge v3 (E.pow E.int E.int)) (Ss.one (St.asg v3 (Tg.sub v0 E.int set_list set_lst))) (Ss.one (St.asg (E.mod (E.callTy call_int1 cf_int1 g_int z_int (by decide +kernel) (A.cons (E.add false (E.add false (E.mul false (E.ix v0 E.int) E.int) (E.mul false v3 E.int)) E.int) A.nil)) E.int) (Tg.sub v0 E.int set_list set_lst))))))) (Ss.one (St.asg (E.mod (E.callTy call_int1 cf_int1 g_int z_int (by decide +kernel) (A.cons (E.add false (E.mul false (E.ix v0 E.int) E.int) E.int) A.nil)) E.int) (Tg.sub v0 E.int set_list set_lst))))) Ss.nil)
  (Ss.cons (St.ite (B.gt (E.ix v0 E.int) E.int) (Ss.cons (b.set nd 2 "_law_found" (by decide +kernel) (E.mod (E.callTy call_int1 cf_int1 g_int z_int (by decide +kernel) (A.cons (E.ix v0 E.int) A.nil)) v1))
  (Ss.cons (St.asg (E.fdiv (E.ix v0 E.int) v1) (Tg.sub v0 E.int set_list set_lst))
  (Ss.one (St.ret v2)))) Ss.nil)
  (Ss.one (St.ret (E.mod (E.mod (E.callTy call_int1 cf_int1 g_int z_int (by decide +kernel) (A.cons (E.mul false (E.ix v0 E.int) E.int) A.nil)) E.int) v1)))))
theorem sc_law_word : FnScope ["_law_draws", "_law_forms", "_law_at", "_law_letters", "_law_size", "_law_k"] ["_law_draws"] (defScope (topS 45)) := ⟨rfl, rfl, rfl, by decide +kernel, rfl, by decide +kernel, by decide +kernel⟩
theorem d_law_word {P : Program} {w : World} {K : PySem.W.Frag} {mg : Str → Option Value} {base : Heap} (F : DefAt K mg "_law_word" (topS 45) ["_law_draws"]) (c_law_draw : Cal P w K mg base 1 "_law_draw" (spW ⟨K, mg⟩ f_law_draw)) (z_range : mg "range" = none) : Cal P w K mg base 2 "_law_word" (spW ⟨K, mg⟩ f_law_word) := by
  obtain ⟨f, fd, F, hm, hb⟩ := F
  refine Cal.mkW F hm sc_law_word hb rfl rfl fun X W e1 e2 e3 e4 e5 b => ?_
  subst e1 e2 e3 e4 e5
  have nd := sc_law_word.nd
  have g_law_draw := b.gl "_law_draw" (by decide +kernel)
  have g_range := b.gl "range" (by decide +kernel)
  have v0 := fun {pos : Pos} => b.v (pos := pos) 0 "_law_draws" (by decide +kernel)
  have v2 := fun {pos : Pos} => b.v (pos := pos) 2 "_law_at" (by decide +kernel)
  have v1 := fun {pos : Pos} => b.v (pos := pos) 1 "_law_forms" (by decide +kernel)
  have v4 := fun {pos : Pos} => b.v (pos := pos) 4 "_law_size" (by decide +kernel)
  exact (Ss.cons (b.set nd 1 "_law_forms" (by decide +kernel) (E.lst false (A.cons E.str (A.cons E.str (A.cons E.str (A.cons E.str (A.cons E.str (A.cons E.str (A.cons E.str (A.cons E.str A.nil))))))))))
  (Ss.cons (b.set nd 2 "_law_at" (by decide +kernel) (E.callW c_law_draw b.room b.tk g_law_draw (A.cons v0 (A.cons E.int A.nil))))
  (Ss.cons (St.ite (B.lt v2 E.int) (Ss.one (St.ret (E.ix v1 v2))) Ss.nil)
  (Ss.cons (b.set nd 3 "_law_letters" (by decide +kernel) E.str)
  (Ss.cons (b.set nd 4 "_law_size" (by decide +kernel) (E.add false E.int (E.callW c_law_draw b.room b.tk g_law_draw (A.cons v0 (A.cons E.int A.nil)))))
  (Ss.one (St.ret (E.bm PySem.F.plainAttrs_str PySem.F.slot_str_join PySem.F.type_str_join mt_join mtf_join E.str (A.cons (E.lc (own := [("_law_k", 5)]) false b.calm (b.hN ▸ nd) (I.r1 g_range z_range (A.cons v4 A.nil)) (b.blk (by decide +kernel)) (CG.name (by decide)) (fun _ _ _ _ _ => blk_pg b.hN b.sc nd 5 "_law_k" (by decide +kernel)) (fun _ _ _ _ _ => Ts.nil) (fun _ _ _ _ _ => (E.ix (b.bk.v 3 "_law_letters" (by decide +kernel)) (E.callW c_law_draw b.room takes0 (b.bk.gl "_law_draw" (by decide +kernel)) (A.cons (b.bk.v 0 "_law_draws" (by decide +kernel)) (A.cons E.int A.nil)))))) A.nil)))))))))
theorem sc_law_number : FnScope ["_law_draws", "_law_at"] ["_law_draws"] (defScope (topS 46)) := ⟨rfl, rfl, rfl, by decide +kernel, rfl, by decide +kernel, by decide +kernel⟩
theorem d_law_number {P : Program} {w : World} {K : PySem.W.Frag} {mg : Str → Option Value} {base : Heap} (F : DefAt K mg "_law_number" (topS 46) ["_law_draws"]) (c_law_draw : Cal P w K mg base 1 "_law_draw" (spW ⟨K, mg⟩ f_law_draw)) : Cal P w K mg base 2 "_law_number" (spW ⟨K, mg⟩ f_law_number) := by
  obtain ⟨f, fd, F, hm, hb⟩ := F
  refine Cal.mkW F hm sc_law_number hb rfl rfl fun X W e1 e2 e3 e4 e5 b => ?_
  subst e1 e2 e3 e4 e5
  have nd := sc_law_number.nd
  have g_law_draw := b.gl "_law_draw" (by decide +kernel)
  have v0 := fun {pos : Pos} => b.v (pos := pos) 0 "_law_draws" (by decide +kernel)
  have v1 := fun {pos : Pos} => b.v (pos := pos) 1 "_law_at" (by decide +kernel)
  exact (Ss.cons (b.set nd 1 "_law_at" (by decide +kernel) (E.callW c_law_draw b.room b.tk g_law_draw (A.cons v0 (A.cons E.int A.nil))))
  (Ss.cons (St.ite (B.eq b.hu v1 E.int) (Ss.one (St.ret (E.ix (E.lst false (A.cons E.int (A.cons E.int (A.cons (E.neg un_neg E.int) (A.cons (E.pow E.int E.int) (A.cons (E.neg un_neg (E.pow E.int E.int)) (A.cons (E.sub (E.pow E.int E.int) E.int) A.nil))))))) (E.callW c_law_draw b.room b.tk g_law_draw (A.cons v0 (A.cons E.int A.nil)))))) Ss.nil)
  (Ss.cons (St.ite (B.eq b.hu v1 E.int) (Ss.one (St.ret (E.sub (E.callW c_law_draw b.room b.tk g_law_draw (A.cons v0 (A.cons (E.pow E.int E.int) A.nil))) (E.mul false E.int (E.pow E.int E.int))))) Ss.nil)
  (Ss.one (St.ret (E.sub (E.callW c_law_draw b.room b.tk g_law_draw (A.cons v0 (A.cons E.int A.nil))) E.int))))))
theorem sc_law_line : FnScope ["_law_draws"] ["_law_draws"] (defScope (topS 47)) := ⟨rfl, rfl, rfl, by decide +kernel, rfl, by decide +kernel, by decide +kernel⟩
theorem d_law_line {P : Program} {w : World} {K : PySem.W.Frag} {mg : Str → Option Value} {base : Heap} (F : DefAt K mg "_law_line" (topS 47) ["_law_draws"]) (c_law_draw : Cal P w K mg base 1 "_law_draw" (spW ⟨K, mg⟩ f_law_draw)) : Cal P w K mg base 2 "_law_line" (spW ⟨K, mg⟩ f_law_line) := by
  obtain ⟨f, fd, F, hm, hb⟩ := F
  refine Cal.mkW F hm sc_law_line hb rfl rfl fun X W e1 e2 e3 e4 e5 b => ?_
  subst e1 e2 e3 e4 e5
  have nd := sc_law_line.nd
  have g_law_draw := b.gl "_law_draw" (by decide +kernel)
  have v0 := fun {pos : Pos} => b.v (pos := pos) 0 "_law_draws" (by decide +kernel)
  exact (Ss.one (St.ret (E.ix (E.lst false (A.cons E.int (A.cons E.int (A.cons E.int (A.cons E.int (A.cons E.int (A.cons E.int (A.cons (E.pow E.int E.int) A.nil)))))))) (E.callW c_law_draw b.room b.tk g_law_draw (A.cons v0 (A.cons E.int A.nil))))))
theorem sc_law_value : FnScope ["_law_draws", "_law_rows", "_law_line_here", "_law_at", "_law_word_here"] ["_law_draws", "_law_rows", "_law_line_here"] (defScope (topS 48)) := ⟨rfl, rfl, rfl, by decide +kernel, rfl, by decide +kernel, by decide +kernel⟩
theorem d_law_value {P : Program} {w : World} {K : PySem.W.Frag} {mg : Str → Option Value} {base : Heap} (F : DefAt K mg "_law_value" (topS 48) ["_law_draws", "_law_rows", "_law_line_here"]) (c_law_draw : Cal P w K mg base 1 "_law_draw" (spW ⟨K, mg⟩ f_law_draw)) (c_law_number : Cal P w K mg base 2 "_law_number" (spW ⟨K, mg⟩ f_law_number)) : Cal P w K mg base 3 "_law_value" (spW ⟨K, mg⟩ f_law_value) := by
  obtain ⟨f, fd, F, hm, hb⟩ := F
  refine Cal.mkW F hm sc_law_value hb rfl rfl fun X W e1 e2 e3 e4 e5 b => ?_
  subst e1 e2 e3 e4 e5
  have nd := sc_law_value.nd
  have g_law_draw := b.gl "_law_draw" (by decide +kernel)
  have g_law_number := b.gl "_law_number" (by decide +kernel)
  have v0 := fun {pos : Pos} => b.v (pos := pos) 0 "_law_draws" (by decide +kernel)
  have v3 := fun {pos : Pos} => b.v (pos := pos) 3 "_law_at" (by decide +kernel)
  have v1 := fun {pos : Pos} => b.v (pos := pos) 1 "_law_rows" (by decide +kernel)
  have v2 := fun {pos : Pos} => b.v (pos := pos) 2 "_law_line_here" (by decide +kernel)
  have v4 := fun {pos : Pos} => b.v (pos := pos) 4 "_law_word_here" (by decide +kernel)
  exact (Ss.cons (b.set nd 3 "_law_at" (by decide +kernel) (E.callW c_law_draw b.room b.tk g_law_draw (A.cons v0 (A.cons E.int A.nil))))
  (Ss.cons (St.ite (B.le v3 E.int) (Ss.one (St.expr (E.bm PySem.F.plainAttrs_list PySem.F.slot_list_append PySem.F.type_list_append mt_append mtf_append v1 (A.cons (E.lst false (A.cons (E.tup (A.cons E.str (A.cons (E.callW c_law_number b.room b.tk g_law_number (A.cons v0 A.nil)) A.nil))) (A.cons v2 A.nil))) A.nil)))) (Ss.one (St.ite (B.le v3 E.int) (Ss.one (St.expr (E.bm PySem.F.plainAttrs_list PySem.F.slot_list_append PySem.F.type_list_append mt_append mtf_append v1 (A.cons (E.lst false (A.cons (E.tup (A.cons E.str (A.cons (E.ix (E.lst false (A.cons E.str (A.cons E.str (A.cons E.str A.nil)))) (E.callW c_law_draw b.room b.tk g_law_draw (A.cons v0 (A.cons E.int A.nil)))) A.nil))) (A.cons v2 A.nil))) A.nil)))) (Ss.cons (St.expr (E.bm PySem.F.plainAttrs_list PySem.F.slot_list_append PySem.F.type_list_append mt_append mtf_append v1 (A.cons (E.lst false (A.cons (E.tup (A.cons E.str (A.cons (E.callW c_law_number b.room b.tk g_law_number (A.cons v0 A.nil)) A.nil))) (A.cons v2 A.nil))) A.nil)))
  (Ss.cons (St.expr (E.bm PySem.F.plainAttrs_list PySem.F.slot_list_append PySem.F.type_list_append mt_append mtf_append v1 (A.cons (E.lst false (A.cons (E.tup (A.cons E.str (A.cons (E.callW c_law_draw b.room b.tk g_law_draw (A.cons v0 (A.cons E.int A.nil))) A.nil))) (A.cons (E.ix (E.lst false (A.cons v2 (A.cons v2 (A.cons E.int A.nil)))) (E.callW c_law_draw b.room b.tk g_law_draw (A.cons v0 (A.cons E.int A.nil)))) A.nil))) A.nil)))
  (Ss.cons (b.set nd 4 "_law_word_here" (by decide +kernel) (E.ix (E.lst false (A.cons E.str (A.cons E.str (A.cons E.str (A.cons E.str A.nil))))) (E.callW c_law_draw b.room b.tk g_law_draw (A.cons v0 (A.cons E.int A.nil)))))
  (Ss.one (St.expr (E.bm PySem.F.plainAttrs_list PySem.F.slot_list_append PySem.F.type_list_append mt_append mtf_append v1 (A.cons (E.lst false (A.cons (E.tup (A.cons v4 A.nil)) (A.cons (E.ix (E.lst false (A.cons v2 (A.cons v2 (A.cons E.int (A.cons E.int A.nil))))) (E.callW c_law_draw b.room b.tk g_law_draw (A.cons v0 (A.cons E.int A.nil)))) A.nil))) A.nil))))))))))
  (Ss.cons (St.ite (B.eq b.hu (E.callW c_law_draw b.room b.tk g_law_draw (A.cons v0 (A.cons E.int A.nil))) E.int) (Ss.cons (St.expr (E.bm PySem.F.plainAttrs_list PySem.F.slot_list_append PySem.F.type_list_append mt_append mtf_append v1 (A.cons (E.lst false (A.cons (E.tup (A.cons E.str (A.cons (E.ix (E.lst false (A.cons E.str (A.cons E.str (A.cons E.str A.nil)))) (E.callW c_law_draw b.room b.tk g_law_draw (A.cons v0 (A.cons E.int A.nil)))) A.nil))) (A.cons v2 A.nil))) A.nil)))
  (Ss.one (St.expr (E.bm PySem.F.plainAttrs_list PySem.F.slot_list_append PySem.F.type_list_append mt_append mtf_append v1 (A.cons (E.lst false (A.cons (E.tup (A.cons (E.ix (E.lst false (A.cons E.str (A.cons E.str (A.cons E.str (A.cons E.str A.nil))))) (E.callW c_law_draw b.room b.tk g_law_draw (A.cons v0 (A.cons E.int A.nil)))) A.nil)) (A.cons v2 A.nil))) A.nil))))) Ss.nil)
  (Ss.one (St.ite (B.eq b.hu (E.callW c_law_draw b.room b.tk g_law_draw (A.cons v0 (A.cons E.int A.nil))) E.int) (Ss.one (St.expr (E.bm PySem.F.plainAttrs_list PySem.F.slot_list_append PySem.F.type_list_append mt_append mtf_append v1 (A.cons (E.lst false (A.cons (E.tup (A.cons E.str A.nil)) (A.cons v2 A.nil))) A.nil)))) Ss.nil)))))
theorem sc_law_plain : FnScope ["_law_draws", "_law_rows", "_law_line_here", "_law_at"] ["_law_draws", "_law_rows"] (defScope (topS 49)) := ⟨rfl, rfl, rfl, by decide +kernel, rfl, by decide +kernel, by decide +kernel⟩
theorem d_law_plain {P : Program} {w : World} {K : PySem.W.Frag} {mg : Str → Option Value} {base : Heap} (F : DefAt K mg "_law_plain" (topS 49) ["_law_draws", "_law_rows"]) (c_law_line : Cal P w K mg base 2 "_law_line" (spW ⟨K, mg⟩ f_law_line)) (c_law_draw : Cal P w K mg base 1 "_law_draw" (spW ⟨K, mg⟩ f_law_draw)) (c_law_value : Cal P w K mg base 3 "_law_value" (spW ⟨K, mg⟩ f_law_value)) (z_len : mg "len" = none) : Cal P w K mg base 4 "_law_plain" (spW ⟨K, mg⟩ f_law_plain) := by
  obtain ⟨f, fd, F, hm, hb⟩ := F
  refine Cal.mkW F hm sc_law_plain hb rfl rfl fun X W e1 e2 e3 e4 e5 b => ?_
  subst e1 e2 e3 e4 e5
  have nd := sc_law_plain.nd
  have g_law_line := b.gl "_law_line" (by decide +kernel)
  have g_law_draw := b.gl "_law_draw" (by decide +kernel)
  have g_law_value := b.gl "_law_value" (by decide +kernel)
  have g_len := b.gl "len" (by decide +kernel)
  have v0 := fun {pos : Pos} => b.v (pos := pos) 0 "_law_draws" (by decide +kernel)
  have v3 := fun {pos : Pos} => b.v (pos := pos) 3 "_law_at" (by decide +kernel)
  have v1 := fun {pos : Pos} => b.v (pos := pos) 1 "_law_rows" (by decide +kernel)
  have v2 := fun {pos : Pos} => b.v (pos := pos) 2 "_law_line_here" (by decide +kernel)
  exact (Ss.cons (b.set nd 2 "_law_line_here" (by decide +kernel) (E.callW c_law_line b.room b.tk g_law_line (A.cons v0 A.nil)))
  (Ss.cons (b.set nd 3 "_law_at" (by decide +kernel) (E.callW c_law_draw b.room b.tk g_law_draw (A.cons v0 (A.cons E.int A.nil))))
  (Ss.one (St.ite (B.le v3 E.int) (Ss.cons (St.expr (E.callW c_law_value b.room b.tk g_law_value (A.cons v0 (A.cons v1 (A.cons v2 A.nil)))))
  (Ss.one (St.expr (E.bm PySem.F.plainAttrs_list PySem.F.slot_list_append PySem.F.type_list_append mt_append mtf_append v1 (A.cons (E.lst false (A.cons (E.tup (A.cons E.str A.nil)) (A.cons v2 A.nil))) A.nil))))) (Ss.one (St.ite (B.eq b.hu v3 E.int) (Ss.cons (St.expr (E.callW c_law_value b.room b.tk g_law_value (A.cons v0 (A.cons v1 (A.cons v2 A.nil)))))
  (Ss.one (St.expr (E.bm PySem.F.plainAttrs_list PySem.F.slot_list_append PySem.F.type_list_append mt_append mtf_append v1 (A.cons (E.lst false (A.cons (E.tup (A.cons E.str (A.cons (E.ix (E.lst false (A.cons E.str (A.cons E.str (A.cons E.str A.nil)))) (E.callW c_law_draw b.room b.tk g_law_draw (A.cons v0 (A.cons E.int A.nil)))) A.nil))) (A.cons v2 A.nil))) A.nil))))) (Ss.one (St.ite (B.eq b.hu v3 E.int) (Ss.one (St.expr (E.bm PySem.F.plainAttrs_list PySem.F.slot_list_append PySem.F.type_list_append mt_append mtf_append v1 (A.cons (E.lst false (A.cons (E.tup (A.cons E.str A.nil)) (A.cons v2 A.nil))) A.nil)))) (Ss.one (St.ite (B.eq b.hu v3 E.int) (Ss.cons (St.expr (E.callW c_law_value b.room b.tk g_law_value (A.cons v0 (A.cons v1 (A.cons v2 A.nil)))))
  (Ss.one (St.expr (E.bm PySem.F.plainAttrs_list PySem.F.slot_list_append PySem.F.type_list_append mt_append mtf_append v1 (A.cons (E.lst false (A.cons (E.tup (A.cons E.str A.nil)) (A.cons (E.ix (E.lst false (A.cons v2 (A.cons E.int A.nil))) (E.callW c_law_draw b.room b.tk g_law_draw (A.cons v0 (A.cons E.int A.nil)))) A.nil))) A.nil))))) (Ss.one (St.ite (B.eq b.hu v3 E.int) (Ss.cons (St.expr (E.callW c_law_value b.room b.tk g_law_value (A.cons v0 (A.cons v1 (A.cons v2 A.nil)))))
  (Ss.cons (St.expr (E.bm PySem.F.plainAttrs_list PySem.F.slot_list_append PySem.F.type_list_append mt_append mtf_append v1 (A.cons (E.lst false (A.cons (E.tup (A.cons E.str A.nil)) (A.cons v2 A.nil))) A.nil)))
  (Ss.cons (St.expr (E.bm PySem.F.plainAttrs_list PySem.F.slot_list_append PySem.F.type_list_append mt_append mtf_append v1 (A.cons (E.lst false (A.cons (E.tup (A.cons E.str A.nil)) (A.cons v2 A.nil))) A.nil)))
  (Ss.one (St.expr (E.bm PySem.F.plainAttrs_list PySem.F.slot_list_append PySem.F.type_list_append mt_append mtf_append v1 (A.cons (E.lst false (A.cons (E.tup (A.cons E.str A.nil)) (A.cons v2 A.nil))) A.nil))))))) (Ss.one (St.ite (B.eq b.hu v3 E.int) (Ss.cons (St.expr (E.bm PySem.F.plainAttrs_list PySem.F.slot_list_append PySem.F.type_list_append mt_append mtf_append v1 (A.cons (E.lst false (A.cons (E.tup (A.cons E.str A.nil)) (A.cons v2 A.nil))) A.nil)))
  (Ss.one (St.expr (E.bm PySem.F.plainAttrs_list PySem.F.slot_list_append PySem.F.type_list_append mt_append mtf_append v1 (A.cons (E.lst false (A.cons (E.tup (A.cons E.str A.nil)) (A.cons (E.ix (E.lst false (A.cons E.int (A.cons v2 A.nil))) (E.callW c_law_draw b.room b.tk g_law_draw (A.cons v0 (A.cons E.int A.nil)))) A.nil))) A.nil))))) (Ss.one (St.ite (BW.t (BW.and (B.eq b.hu v3 E.int) (BW.and1 (B.eq b.hu (E.callW c_law_draw b.room b.tk g_law_draw (A.cons v0 (A.cons E.int A.nil))) E.int)))) (Ss.one (St.expr (E.bm PySem.F.plainAttrs_list PySem.F.slot_list_append PySem.F.type_list_append mt_append mtf_append v1 (A.cons (E.lst false (A.cons (E.tup (A.cons E.str (A.cons (E.ix (E.lst false (A.cons E.str (A.cons E.str (A.cons E.str A.nil)))) (E.callW c_law_draw b.room b.tk g_law_draw (A.cons v0 (A.cons E.int A.nil)))) A.nil))) (A.cons v2 A.nil))) A.nil)))) (Ss.one (St.expr (E.bm PySem.F.plainAttrs_list PySem.F.slot_list_append PySem.F.type_list_append mt_append mtf_append v1 (A.cons (E.lst false (A.cons (E.tup (A.cons E.str (A.cons (E.add false (E.callB cr_len cf_len g_len z_len (by decide +kernel) (A.cons v1 A.nil)) E.int) A.nil))) (A.cons (E.ix (E.lst false (A.cons E.int (A.cons v2 A.nil))) (E.callW c_law_draw b.room b.tk g_law_draw (A.cons v0 (A.cons E.int A.nil)))) A.nil))) A.nil))))))))))))))))))))
theorem sc_law_choice : FnScope ["_law_draws", "_law_rows", "_law_handlers", "_law_deep", "_law_base", "_law_line_here", "_law_first", "_law_second"] ["_law_draws", "_law_rows", "_law_handlers", "_law_deep", "_law_base"] (defScope (topS 50)) := ⟨rfl, rfl, rfl, by decide +kernel, rfl, by decide +kernel, by decide +kernel⟩
theorem b_law_choice {self_law_body : List PV → Sto → R PV} (n : Nat) {P : Program} {w : World} {K : PySem.W.Frag} {mg : Str → Option Value} {base : Heap} (F : DefAt K mg "_law_choice" (topS 50) ["_law_draws", "_law_rows", "_law_handlers", "_law_deep", "_law_base"]) (c_law_line : Cal P w K mg base 2 "_law_line" (spW ⟨K, mg⟩ f_law_line)) (c_law_value : Cal P w K mg base 3 "_law_value" (spW ⟨K, mg⟩ f_law_value)) (c_law_draw : Cal P w K mg base 1 "_law_draw" (spW ⟨K, mg⟩ f_law_draw)) (z_len : mg "len" = none) (c_law_body : Cal P w K mg base (4 + n) "_law_body" (spW ⟨K, mg⟩ self_law_body)) : Cal P w K mg base (4 + n + 1) "_law_choice" (spW ⟨K, mg⟩ (runW 5 8 (body_law_choice self_law_body))) := by
  obtain ⟨f, fd, F, hm, hb⟩ := F
  refine Cal.mkW F hm sc_law_choice hb rfl rfl fun X W e1 e2 e3 e4 e5 b => ?_
  subst e1 e2 e3 e4 e5
  have nd := sc_law_choice.nd
  have g_law_line := b.gl "_law_line" (by decide +kernel)
  have g_law_value := b.gl "_law_value" (by decide +kernel)
  have g_len := b.gl "len" (by decide +kernel)
  have g_law_body := b.gl "_law_body" (by decide +kernel)
  have g_law_draw := b.gl "_law_draw" (by decide +kernel)
  have v0 := fun {pos : Pos} => b.v (pos := pos) 0 "_law_draws" (by decide +kernel)
  have v1 := fun {pos : Pos} => b.v (pos := pos) 1 "_law_rows" (by decide +kernel)
  have v5 := fun {pos : Pos} => b.v (pos := pos) 5 "_law_line_here" (by decide +kernel)
  have v2 := fun {pos : Pos} => b.v (pos := pos) 2 "_law_handlers" (by decide +kernel)
  have v3 := fun {pos : Pos} => b.v (pos := pos) 3 "_law_deep" (by decide +kernel)
  have v4 := fun {pos : Pos} => b.v (pos := pos) 4 "_law_base" (by decide +kernel)
  have v6 := fun {pos : Pos} => b.v (pos := pos) 6 "_law_first" (by decide +kernel)
  have v7 := fun {pos : Pos} => b.v (pos := pos) 7 "_law_second" (by decide +kernel)
  exact (Ss.cons (b.set nd 5 "_law_line_here" (by decide +kernel) (E.callW c_law_line b.room b.tk g_law_line (A.cons v0 A.nil) (hk := by omega)))
  (Ss.cons (St.expr (E.callW c_law_value b.room b.tk g_law_value (A.cons v0 (A.cons v1 (A.cons v5 A.nil))) (hk := by omega)))
  (Ss.cons (St.expr (E.bm PySem.F.plainAttrs_list PySem.F.slot_list_append PySem.F.type_list_append mt_append mtf_append v1 (A.cons (E.lst true (A.cons (E.tup (A.cons E.str (A.cons E.int A.nil))) (A.cons v5 A.nil))) A.nil)))
  (Ss.cons (b.set nd 6 "_law_first" (by decide +kernel) (E.sub (E.callB cr_len cf_len g_len z_len (by decide +kernel) (A.cons v1 A.nil)) E.int))
  (Ss.cons (St.expr (E.callW c_law_body b.room b.tk g_law_body (A.cons v0 (A.cons v1 (A.cons v2 (A.cons v3 (A.cons v4 A.nil))))) (hk := by omega)))
  (Ss.cons (St.expr (E.bm PySem.F.plainAttrs_list PySem.F.slot_list_append PySem.F.type_list_append mt_append mtf_append v1 (A.cons (E.lst true (A.cons (E.tup (A.cons E.str (A.cons E.int A.nil))) (A.cons (E.ix (E.lst false (A.cons E.int (A.cons v5 A.nil))) (E.callW c_law_draw b.room b.tk g_law_draw (A.cons v0 (A.cons E.int A.nil)) (hk := by omega))) A.nil))) A.nil)))
  (Ss.cons (b.set nd 7 "_law_second" (by decide +kernel) (E.sub (E.callB cr_len cf_len g_len z_len (by decide +kernel) (A.cons v1 A.nil)) E.int))
  (Ss.cons (St.asg (E.tup (A.cons E.str (A.cons (E.callB cr_len cf_len g_len z_len (by decide +kernel) (A.cons v1 A.nil)) A.nil))) (Tg.sub (E.ix v1 v6) E.int set_list set_lst))
  (Ss.cons (St.expr (E.callW c_law_body b.room b.tk g_law_body (A.cons v0 (A.cons v1 (A.cons v2 (A.cons v3 (A.cons v4 A.nil))))) (hk := by omega)))
  (Ss.one (St.asg (E.tup (A.cons E.str (A.cons (E.callB cr_len cf_len g_len z_len (by decide +kernel) (A.cons v1 A.nil)) A.nil))) (Tg.sub (E.ix v1 v7) E.int set_list set_lst))))))))))))
theorem sc_law_loop : FnScope ["_law_draws", "_law_rows", "_law_handlers", "_law_deep", "_law_base", "_law_line_here", "_law_start", "_law_at"] ["_law_draws", "_law_rows", "_law_handlers", "_law_deep", "_law_base"] (defScope (topS 51)) := ⟨rfl, rfl, rfl, by decide +kernel, rfl, by decide +kernel, by decide +kernel⟩
theorem b_law_loop {self_law_body : List PV → Sto → R PV} (n : Nat) {P : Program} {w : World} {K : PySem.W.Frag} {mg : Str → Option Value} {base : Heap} (F : DefAt K mg "_law_loop" (topS 51) ["_law_draws", "_law_rows", "_law_handlers", "_law_deep", "_law_base"]) (c_law_line : Cal P w K mg base 2 "_law_line" (spW ⟨K, mg⟩ f_law_line)) (c_law_draw : Cal P w K mg base 1 "_law_draw" (spW ⟨K, mg⟩ f_law_draw)) (z_len : mg "len" = none) (c_law_body : Cal P w K mg base (4 + n) "_law_body" (spW ⟨K, mg⟩ self_law_body)) : Cal P w K mg base (4 + n + 1) "_law_loop" (spW ⟨K, mg⟩ (runW 5 8 (body_law_loop self_law_body))) := by
  obtain ⟨f, fd, F, hm, hb⟩ := F
  refine Cal.mkW F hm sc_law_loop hb rfl rfl fun X W e1 e2 e3 e4 e5 b => ?_
  subst e1 e2 e3 e4 e5
  have nd := sc_law_loop.nd
  have g_law_line := b.gl "_law_line" (by decide +kernel)
  have g_len := b.gl "len" (by decide +kernel)
  have g_law_body := b.gl "_law_body" (by decide +kernel)
  have g_law_draw := b.gl "_law_draw" (by decide +kernel)
  have v0 := fun {pos : Pos} => b.v (pos := pos) 0 "_law_draws" (by decide +kernel)
  have v1 := fun {pos : Pos} => b.v (pos := pos) 1 "_law_rows" (by decide +kernel)
  have v2 := fun {pos : Pos} => b.v (pos := pos) 2 "_law_handlers" (by decide +kernel)
  have v3 := fun {pos : Pos} => b.v (pos := pos) 3 "_law_deep" (by decide +kernel)
  have v4 := fun {pos : Pos} => b.v (pos := pos) 4 "_law_base" (by decide +kernel)
  have v7 := fun {pos : Pos} => b.v (pos := pos) 7 "_law_at" (by decide +kernel)
  have v6 := fun {pos : Pos} => b.v (pos := pos) 6 "_law_start" (by decide +kernel)
  have v5 := fun {pos : Pos} => b.v (pos := pos) 5 "_law_line_here" (by decide +kernel)
  exact (Ss.cons (b.set nd 5 "_law_line_here" (by decide +kernel) (E.callW c_law_line b.room b.tk g_law_line (A.cons v0 A.nil) (hk := by omega)))
  (Ss.cons (b.set nd 6 "_law_start" (by decide +kernel) (E.callB cr_len cf_len g_len z_len (by decide +kernel) (A.cons v1 A.nil)))
  (Ss.cons (St.expr (E.callW c_law_body b.room b.tk g_law_body (A.cons v0 (A.cons v1 (A.cons v2 (A.cons v3 (A.cons v4 A.nil))))) (hk := by omega)))
  (Ss.cons (b.set nd 7 "_law_at" (by decide +kernel) (E.callW c_law_draw b.room b.tk g_law_draw (A.cons v0 (A.cons E.int A.nil)) (hk := by omega)))
  (Ss.one (St.ite (B.eq b.hu v7 E.int) (Ss.one (St.expr (E.bm PySem.F.plainAttrs_list PySem.F.slot_list_append PySem.F.type_list_append mt_append mtf_append v1 (A.cons (E.lst false (A.cons (E.tup (A.cons E.str (A.cons v6 A.nil))) (A.cons (E.ix (E.lst false (A.cons E.int (A.cons v5 A.nil))) (E.callW c_law_draw b.room b.tk g_law_draw (A.cons v0 (A.cons E.int A.nil)) (hk := by omega))) A.nil))) A.nil)))) (Ss.cons (St.expr (E.bm PySem.F.plainAttrs_list PySem.F.slot_list_append PySem.F.type_list_append mt_append mtf_append v1 (A.cons (E.lst false (A.cons (E.tup (A.cons E.str (A.cons E.str A.nil))) (A.cons v5 A.nil))) A.nil)))
  (Ss.cons (St.expr (E.bm PySem.F.plainAttrs_list PySem.F.slot_list_append PySem.F.type_list_append mt_append mtf_append v1 (A.cons (E.lst false (A.cons (E.tup (A.cons E.str (A.cons E.int A.nil))) (A.cons v5 A.nil))) A.nil)))
  (Ss.cons (St.expr (E.bm PySem.F.plainAttrs_list PySem.F.slot_list_append PySem.F.type_list_append mt_append mtf_append v1 (A.cons (E.lst false (A.cons (E.tup (A.cons E.str A.nil)) (A.cons v5 A.nil))) A.nil)))
  (Ss.cons (St.expr (E.bm PySem.F.plainAttrs_list PySem.F.slot_list_append PySem.F.type_list_append mt_append mtf_append v1 (A.cons (E.lst false (A.cons (E.tup (A.cons E.str A.nil)) (A.cons v5 A.nil))) A.nil)))
  (Ss.cons (St.expr (E.bm PySem.F.plainAttrs_list PySem.F.slot_list_append PySem.F.type_list_append mt_append mtf_append v1 (A.cons (E.lst false (A.cons (E.tup (A.cons E.str (A.cons E.str A.nil))) (A.cons v5 A.nil))) A.nil)))
  (Ss.cons (St.expr (E.bm PySem.F.plainAttrs_list PySem.F.slot_list_append PySem.F.type_list_append mt_append mtf_append v1 (A.cons (E.lst false (A.cons (E.tup (A.cons E.str (A.cons E.int A.nil))) (A.cons v5 A.nil))) A.nil)))
  (Ss.cons (St.expr (E.bm PySem.F.plainAttrs_list PySem.F.slot_list_append PySem.F.type_list_append mt_append mtf_append v1 (A.cons (E.lst false (A.cons (E.tup (A.cons E.str A.nil)) (A.cons v5 A.nil))) A.nil)))
  (Ss.cons (St.expr (E.bm PySem.F.plainAttrs_list PySem.F.slot_list_append PySem.F.type_list_append mt_append mtf_append v1 (A.cons (E.lst false (A.cons (E.tup (A.cons E.str A.nil)) (A.cons v5 A.nil))) A.nil)))
  (Ss.one (St.expr (E.bm PySem.F.plainAttrs_list PySem.F.slot_list_append PySem.F.type_list_append mt_append mtf_append v1 (A.cons (E.lst false (A.cons (E.tup (A.cons E.str (A.cons v6 A.nil))) (A.cons v5 A.nil))) A.nil))))))))))))))))))
theorem sc_law_guard : FnScope ["_law_draws", "_law_rows", "_law_handlers", "_law_deep", "_law_base", "_law_start", "_law_end", "_law_place", "_law_kind", "_law_target"] ["_law_draws", "_law_rows", "_law_handlers", "_law_deep", "_law_base"] (defScope (topS 52)) := ⟨rfl, rfl, rfl, by decide +kernel, rfl, by decide +kernel, by decide +kernel⟩
theorem b_law_guard {self_law_body : List PV → Sto → R PV} (n : Nat) {P : Program} {w : World} {K : PySem.W.Frag} {mg : Str → Option Value} {base : Heap} (F : DefAt K mg "_law_guard" (topS 52) ["_law_draws", "_law_rows", "_law_handlers", "_law_deep", "_law_base"]) (c_law_plain : Cal P w K mg base 4 "_law_plain" (spW ⟨K, mg⟩ f_law_plain)) (c_law_draw : Cal P w K mg base 1 "_law_draw" (spW ⟨K, mg⟩ f_law_draw)) (c_law_line : Cal P w K mg base 2 "_law_line" (spW ⟨K, mg⟩ f_law_line)) (z_len : mg "len" = none) (c_law_body : Cal P w K mg base (4 + n) "_law_body" (spW ⟨K, mg⟩ self_law_body)) : Cal P w K mg base (4 + n + 1) "_law_guard" (spW ⟨K, mg⟩ (runW 5 10 (body_law_guard self_law_body))) := by
  obtain ⟨f, fd, F, hm, hb⟩ := F
  refine Cal.mkW F hm sc_law_guard hb rfl rfl fun X W e1 e2 e3 e4 e5 b => ?_
  subst e1 e2 e3 e4 e5
  have nd := sc_law_guard.nd
  have g_len := b.gl "len" (by decide +kernel)
  have g_law_body := b.gl "_law_body" (by decide +kernel)
  have g_law_line := b.gl "_law_line" (by decide +kernel)
  have g_law_draw := b.gl "_law_draw" (by decide +kernel)
  have g_law_plain := b.gl "_law_plain" (by decide +kernel)
  have v1 := fun {pos : Pos} => b.v (pos := pos) 1 "_law_rows" (by decide +kernel)
  have v0 := fun {pos : Pos} => b.v (pos := pos) 0 "_law_draws" (by decide +kernel)
  have v2 := fun {pos : Pos} => b.v (pos := pos) 2 "_law_handlers" (by decide +kernel)
  have v3 := fun {pos : Pos} => b.v (pos := pos) 3 "_law_deep" (by decide +kernel)
  have v4 := fun {pos : Pos} => b.v (pos := pos) 4 "_law_base" (by decide +kernel)
  have v6 := fun {pos : Pos} => b.v (pos := pos) 6 "_law_end" (by decide +kernel)
  have v5 := fun {pos : Pos} => b.v (pos := pos) 5 "_law_start" (by decide +kernel)
  have v7 := fun {pos : Pos} => b.v (pos := pos) 7 "_law_place" (by decide +kernel)
  have v9 := fun {pos : Pos} => b.v (pos := pos) 9 "_law_target" (by decide +kernel)
  have v8 := fun {pos : Pos} => b.v (pos := pos) 8 "_law_kind" (by decide +kernel)
  exact (Ss.cons (b.set nd 5 "_law_start" (by decide +kernel) (E.callB cr_len cf_len g_len z_len (by decide +kernel) (A.cons v1 A.nil)))
  (Ss.cons (St.expr (E.callW c_law_body b.room b.tk g_law_body (A.cons v0 (A.cons v1 (A.cons v2 (A.cons v3 (A.cons v4 A.nil))))) (hk := by omega)))
  (Ss.cons (b.set nd 6 "_law_end" (by decide +kernel) (E.callB cr_len cf_len g_len z_len (by decide +kernel) (A.cons v1 A.nil)))
  (Ss.cons (St.expr (E.bm PySem.F.plainAttrs_list PySem.F.slot_list_append PySem.F.type_list_append mt_append mtf_append v1 (A.cons (E.lst true (A.cons (E.tup (A.cons E.str (A.cons E.int A.nil))) (A.cons (E.callW c_law_line b.room b.tk g_law_line (A.cons v0 A.nil) (hk := by omega)) A.nil))) A.nil)))
  (Ss.cons (b.set nd 7 "_law_place" (by decide +kernel) (E.callB cr_len cf_len g_len z_len (by decide +kernel) (A.cons v2 A.nil)))
  (Ss.cons (b.set nd 8 "_law_kind" (by decide +kernel) (E.ix (E.lst false (A.cons E.non (A.cons E.str (A.cons E.str (A.cons E.str A.nil))))) (E.callW c_law_draw b.room b.tk g_law_draw (A.cons v0 (A.cons E.int A.nil)) (hk := by omega))))
  (Ss.cons (b.set nd 9 "_law_target" (by decide +kernel) (E.callB cr_len cf_len g_len z_len (by decide +kernel) (A.cons v1 A.nil)))
  (Ss.cons (St.expr (E.callW c_law_plain b.room b.tk g_law_plain (A.cons v0 (A.cons v1 A.nil)) (hk := by omega)))
  (Ss.cons (St.asg (E.tup (A.cons E.str (A.cons (E.callB cr_len cf_len g_len z_len (by decide +kernel) (A.cons v1 A.nil)) A.nil))) (Tg.sub (E.ix v1 v6) E.int set_list set_lst))
  (Ss.one (St.ite (B.gt v6 v5) (Ss.one (St.expr (E.bm PySem.F.plainAttrs_list PySem.F.slot_list_insert PySem.F.type_list_insert mt_insert mtf_insert v2 (A.cons v7 (A.cons (E.tup (A.cons v5 (A.cons v6 (A.cons v9 (A.cons v4 (A.cons v8 A.nil)))))) A.nil))))) Ss.nil)))))))))))
theorem sc_law_body : FnScope ["_law_draws", "_law_rows", "_law_handlers", "_law_deep", "_law_base", "_law_k", "_law_at"] ["_law_draws", "_law_rows", "_law_handlers", "_law_deep", "_law_base"] (defScope (topS 53)) := ⟨rfl, rfl, rfl, by decide +kernel, rfl, by decide +kernel, by decide +kernel⟩
theorem b_law_body {self_law_choice : List PV → Sto → R PV} {self_law_loop : List PV → Sto → R PV} {self_law_body : List PV → Sto → R PV} {self_law_guard : List PV → Sto → R PV} (n : Nat) {P : Program} {w : World} {K : PySem.W.Frag} {mg : Str → Option Value} {base : Heap} (F : DefAt K mg "_law_body" (topS 53) ["_law_draws", "_law_rows", "_law_handlers", "_law_deep", "_law_base"]) (c_law_draw : Cal P w K mg base 1 "_law_draw" (spW ⟨K, mg⟩ f_law_draw)) (c_law_plain : Cal P w K mg base 4 "_law_plain" (spW ⟨K, mg⟩ f_law_plain)) (c_law_line : Cal P w K mg base 2 "_law_line" (spW ⟨K, mg⟩ f_law_line)) (c_law_number : Cal P w K mg base 2 "_law_number" (spW ⟨K, mg⟩ f_law_number)) (z_range : mg "range" = none) (z_len : mg "len" = none) (c_law_choice : Cal P w K mg base (4 + n) "_law_choice" (spW ⟨K, mg⟩ self_law_choice)) (c_law_loop : Cal P w K mg base (4 + n) "_law_loop" (spW ⟨K, mg⟩ self_law_loop)) (c_law_body : Cal P w K mg base (4 + n) "_law_body" (spW ⟨K, mg⟩ self_law_body)) (c_law_guard : Cal P w K mg base (4 + n) "_law_guard" (spW ⟨K, mg⟩ self_law_guard)) : Cal P w K mg base (4 + n + 1) "_law_body" (spW ⟨K, mg⟩ (runW 5 7 (body_law_body self_law_choice self_law_loop self_law_body self_law_guard))) := by
  obtain ⟨f, fd, F, hm, hb⟩ := F
  refine Cal.mkW F hm sc_law_body hb rfl rfl fun X W e1 e2 e3 e4 e5 b => ?_
  subst e1 e2 e3 e4 e5
  have nd := sc_law_body.nd
  have g_law_draw := b.gl "_law_draw" (by decide +kernel)
  have g_range := b.gl "range" (by decide +kernel)
  have g_len := b.gl "len" (by decide +kernel)
  have g_law_plain := b.gl "_law_plain" (by decide +kernel)
  have g_law_choice := b.gl "_law_choice" (by decide +kernel)
  have g_law_loop := b.gl "_law_loop" (by decide +kernel)
  have g_law_number := b.gl "_law_number" (by decide +kernel)
  have g_law_line := b.gl "_law_line" (by decide +kernel)
  have g_law_body := b.gl "_law_body" (by decide +kernel)
  have g_law_guard := b.gl "_law_guard" (by decide +kernel)
  have v0 := fun {pos : Pos} => b.v (pos := pos) 0 "_law_draws" (by decide +kernel)
  have v6 := fun {pos : Pos} => b.v (pos := pos) 6 "_law_at" (by decide +kernel)
  have v3 := fun {pos : Pos} => b.v (pos := pos) 3 "_law_deep" (by decide +kernel)
  have v1 := fun {pos : Pos} => b.v (pos := pos) 1 "_law_rows" (by decide +kernel)
  have v2 := fun {pos : Pos} => b.v (pos := pos) 2 "_law_handlers" (by decide +kernel)
  have v4 := fun {pos : Pos} => b.v (pos := pos) 4 "_law_base" (by decide +kernel)
  have t5 := fun {pos : Pos} => b.t (pos := pos) nd 5 "_law_k" (by decide +kernel)
  exact (Ss.one (St.for b.po b.calm (I.r1 g_range z_range (A.cons (E.callW c_law_draw b.room b.tk g_law_draw (A.cons v0 (A.cons E.int A.nil)) (hk := by omega)) A.nil)) t5 (Ss.cons (b.set nd 6 "_law_at" (by decide +kernel) (E.callW c_law_draw b.room b.tk g_law_draw (A.cons v0 (A.cons E.int A.nil)) (hk := by omega)))
  (Ss.one (St.ite (BW.t (BW.or (B.gt (E.callB cr_len cf_len g_len z_len (by decide +kernel) (A.cons v1 A.nil)) E.int) (BW.or (B.eq b.hu v3 E.int) (BW.or1 (B.le v6 E.int))))) (Ss.one (St.expr (E.callW c_law_plain b.room b.tk g_law_plain (A.cons v0 (A.cons v1 A.nil)) (hk := by omega)))) (Ss.one (St.ite (B.eq b.hu v6 E.int) (Ss.one (St.expr (E.callW c_law_choice b.room b.tk g_law_choice (A.cons v0 (A.cons v1 (A.cons v2 (A.cons (E.sub v3 E.int) (A.cons v4 A.nil))))) (hk := by omega)))) (Ss.one (St.ite (B.eq b.hu v6 E.int) (Ss.one (St.expr (E.callW c_law_loop b.room b.tk g_law_loop (A.cons v0 (A.cons v1 (A.cons v2 (A.cons (E.sub v3 E.int) (A.cons v4 A.nil))))) (hk := by omega)))) (Ss.one (St.ite (B.eq b.hu v6 E.int) (Ss.cons (St.expr (E.bm PySem.F.plainAttrs_list PySem.F.slot_list_append PySem.F.type_list_append mt_append mtf_append v1 (A.cons (E.lst false (A.cons (E.tup (A.cons E.str (A.cons (E.callW c_law_number b.room b.tk g_law_number (A.cons v0 A.nil) (hk := by omega)) A.nil))) (A.cons (E.callW c_law_line b.room b.tk g_law_line (A.cons v0 A.nil) (hk := by omega)) A.nil))) A.nil)))
  (Ss.cons (St.expr (E.callW c_law_body b.room b.tk g_law_body (A.cons v0 (A.cons v1 (A.cons v2 (A.cons (E.sub v3 E.int) (A.cons (E.add false v4 E.int) A.nil))))) (hk := by omega)))
  (Ss.one (St.expr (E.bm PySem.F.plainAttrs_list PySem.F.slot_list_append PySem.F.type_list_append mt_append mtf_append v1 (A.cons (E.lst false (A.cons (E.ix (E.lst false (A.cons (E.tup (A.cons E.str A.nil)) (A.cons (E.tup (A.cons E.str A.nil)) A.nil))) (E.callW c_law_draw b.room b.tk g_law_draw (A.cons v0 (A.cons E.int A.nil)) (hk := by omega))) (A.cons (E.callW c_law_line b.room b.tk g_law_line (A.cons v0 A.nil) (hk := by omega)) A.nil))) A.nil)))))) (Ss.one (St.expr (E.callW c_law_guard b.room b.tk g_law_guard (A.cons v0 (A.cons v1 (A.cons v2 (A.cons (E.sub v3 E.int) (A.cons v4 A.nil))))) (hk := by omega)))))))))))))))
theorem d_fam_law_body {P : Program} {w : World} {K : PySem.W.Frag} {mg : Str → Option Value} {base : Heap} (F_law_choice : DefAt K mg "_law_choice" (topS 50) ["_law_draws", "_law_rows", "_law_handlers", "_law_deep", "_law_base"]) (F_law_loop : DefAt K mg "_law_loop" (topS 51) ["_law_draws", "_law_rows", "_law_handlers", "_law_deep", "_law_base"]) (F_law_guard : DefAt K mg "_law_guard" (topS 52) ["_law_draws", "_law_rows", "_law_handlers", "_law_deep", "_law_base"]) (F_law_body : DefAt K mg "_law_body" (topS 53) ["_law_draws", "_law_rows", "_law_handlers", "_law_deep", "_law_base"]) (c_law_line : Cal P w K mg base 2 "_law_line" (spW ⟨K, mg⟩ f_law_line)) (c_law_value : Cal P w K mg base 3 "_law_value" (spW ⟨K, mg⟩ f_law_value)) (c_law_draw : Cal P w K mg base 1 "_law_draw" (spW ⟨K, mg⟩ f_law_draw)) (z_len : mg "len" = none) (c_law_plain : Cal P w K mg base 4 "_law_plain" (spW ⟨K, mg⟩ f_law_plain)) (c_law_number : Cal P w K mg base 2 "_law_number" (spW ⟨K, mg⟩ f_law_number)) (z_range : mg "range" = none) : ∀ n, Cal P w K mg base (4 + n) "_law_choice" (spW ⟨K, mg⟩ (f_law_choice n)) ∧ Cal P w K mg base (4 + n) "_law_loop" (spW ⟨K, mg⟩ (f_law_loop n)) ∧ Cal P w K mg base (4 + n) "_law_guard" (spW ⟨K, mg⟩ (f_law_guard n)) ∧ Cal P w K mg base (4 + n) "_law_body" (spW ⟨K, mg⟩ (f_law_body n))
  | 0 => ⟨F_law_choice.badW (f_law_choice 0) (fun _ _ => rfl), F_law_loop.badW (f_law_loop 0) (fun _ _ => rfl), F_law_guard.badW (f_law_guard 0) (fun _ _ => rfl), F_law_body.badW (f_law_body 0) (fun _ _ => rfl)⟩
  | n + 1 => by
    have ih := d_fam_law_body F_law_choice F_law_loop F_law_guard F_law_body c_law_line c_law_value c_law_draw z_len c_law_plain c_law_number z_range n
    exact ⟨b_law_choice n F_law_choice c_law_line c_law_value c_law_draw z_len ih.2.2.2, b_law_loop n F_law_loop c_law_line c_law_draw z_len ih.2.2.2, b_law_guard n F_law_guard c_law_plain c_law_draw c_law_line z_len ih.2.2.2, b_law_body n F_law_body c_law_draw c_law_plain c_law_line c_law_number z_range z_len ih.1 ih.2.1 ih.2.2.2 ih.2.2.1⟩
theorem sc_law_parts : FnScope ["_law_draws", "_law_rows", "_law_handlers", "_law_k", "_law_code", "_law_lines", "_law_row"] ["_law_draws"] (defScope (topS 54)) := ⟨rfl, rfl, rfl, by decide +kernel, rfl, by decide +kernel, by decide +kernel⟩
theorem d_law_parts {P : Program} {w : World} {K : PySem.W.Frag} {mg : Str → Option Value} {base : Heap} (F : DefAt K mg "_law_parts" (topS 54) ["_law_draws"]) (c_law_body : Cal P w K mg base 14 "_law_body" (spW ⟨K, mg⟩ (f_law_body 10))) (c_law_draw : Cal P w K mg base 1 "_law_draw" (spW ⟨K, mg⟩ f_law_draw)) (c_law_line : Cal P w K mg base 2 "_law_line" (spW ⟨K, mg⟩ f_law_line)) (z_range : mg "range" = none) : Cal P w K mg base 16 "_law_parts" (spW ⟨K, mg⟩ f_law_parts) := by
  obtain ⟨f, fd, F, hm, hb⟩ := F
  refine Cal.mkW F hm sc_law_parts hb rfl rfl fun X W e1 e2 e3 e4 e5 b => ?_
  subst e1 e2 e3 e4 e5
  have nd := sc_law_parts.nd
  have g_law_draw := b.gl "_law_draw" (by decide +kernel)
  have g_range := b.gl "range" (by decide +kernel)
  have g_law_body := b.gl "_law_body" (by decide +kernel)
  have g_law_line := b.gl "_law_line" (by decide +kernel)
  have v0 := fun {pos : Pos} => b.v (pos := pos) 0 "_law_draws" (by decide +kernel)
  have v1 := fun {pos : Pos} => b.v (pos := pos) 1 "_law_rows" (by decide +kernel)
  have v2 := fun {pos : Pos} => b.v (pos := pos) 2 "_law_handlers" (by decide +kernel)
  have v4 := fun {pos : Pos} => b.v (pos := pos) 4 "_law_code" (by decide +kernel)
  have v5 := fun {pos : Pos} => b.v (pos := pos) 5 "_law_lines" (by decide +kernel)
  have t3 := fun {pos : Pos} => b.t (pos := pos) nd 3 "_law_k" (by decide +kernel)
  exact (Ss.cons (b.set nd 1 "_law_rows" (by decide +kernel) (E.lst true A.nil))
  (Ss.cons (b.set nd 2 "_law_handlers" (by decide +kernel) (E.lst true A.nil))
  (Ss.cons (St.for b.po b.calm (I.r1 g_range z_range (A.cons (E.add false E.int (E.callW c_law_draw b.room b.tk g_law_draw (A.cons v0 (A.cons E.int A.nil)))) A.nil)) t3 (Ss.one (St.expr (E.callW c_law_body b.room b.tk g_law_body (A.cons v0 (A.cons v1 (A.cons v2 (A.cons E.int (A.cons E.int A.nil)))))))))
  (Ss.cons (St.expr (E.bm PySem.F.plainAttrs_list PySem.F.slot_list_append PySem.F.type_list_append mt_append mtf_append v1 (A.cons (E.lst false (A.cons (E.tup (A.cons E.str A.nil)) (A.cons (E.callW c_law_line b.room b.tk g_law_line (A.cons v0 A.nil)) A.nil))) A.nil)))
  (Ss.cons (St.ite (B.eq b.hu (E.callW c_law_draw b.room b.tk g_law_draw (A.cons v0 (A.cons E.int A.nil))) E.int) (Ss.cons (St.expr (E.bm PySem.F.plainAttrs_list PySem.F.slot_list_append PySem.F.type_list_append mt_append mtf_append v1 (A.cons (E.lst false (A.cons (E.tup (A.cons E.str (A.cons E.int A.nil))) (A.cons E.int A.nil))) A.nil)))
  (Ss.cons (St.expr (E.bm PySem.F.plainAttrs_list PySem.F.slot_list_append PySem.F.type_list_append mt_append mtf_append v1 (A.cons (E.lst false (A.cons (E.tup (A.cons E.str A.nil)) (A.cons E.int A.nil))) A.nil)))
  (Ss.one (St.expr (E.bm PySem.F.plainAttrs_list PySem.F.slot_list_append PySem.F.type_list_append mt_append mtf_append v1 (A.cons (E.lst false (A.cons (E.tup (A.cons E.str (A.cons E.int A.nil))) (A.cons E.int A.nil))) A.nil)))))) Ss.nil)
  (Ss.cons (Body.setLc (own := [("_law_row", 6)]) true b nd 4 "_law_code" (by decide +kernel) (I.any v1) (by decide +kernel) (CG.name (by decide)) (fun _ _ _ _ _ => blk_pg b.hN b.sc nd 6 "_law_row" (by decide +kernel)) (fun _ _ _ _ _ => Ts.nil) (fun _ _ _ _ _ => (E.ix (b.bk.v 6 "_law_row" (by decide +kernel)) E.int)))
  (Ss.cons (Body.setLc (own := [("_law_row", 6)]) true b nd 5 "_law_lines" (by decide +kernel) (I.any v1) (by decide +kernel) (CG.name (by decide)) (fun _ _ _ _ _ => blk_pg b.hN b.sc nd 6 "_law_row" (by decide +kernel)) (fun _ _ _ _ _ => Ts.nil) (fun _ _ _ _ _ => (E.ix (b.bk.v 6 "_law_row" (by decide +kernel)) E.int)))
  (Ss.one (St.ret (E.lst true (A.cons v4 (A.cons v5 (A.cons v2 A.nil)))))))))))))
theorem sc_law_figures : FnScope ["_law_value_here", "_law_digits", "_law_rest"] ["_law_value_here"] (defScope (topS 56)) := ⟨rfl, rfl, rfl, by decide +kernel, rfl, by decide +kernel, by decide +kernel⟩
theorem b_law_figures {self_law_figures : List PV → RP} (n : Nat) {P : Program} {w : World} {K : PySem.W.Frag} {mg : Str → Option Value} {base : Heap} (F : DefAt K mg "_law_figures" (topS 56) ["_law_value_here"]) (z_int : mg "int" = none) (c_law_figures : Cal P w K mg base (0 + n) "_law_figures" (spP ⟨K, mg⟩ self_law_figures)) : Cal P w K mg base (0 + n + 1) "_law_figures" (spP ⟨K, mg⟩ (runP 1 3 (body_law_figures self_law_figures))) := by
  obtain ⟨f, fd, F, hm, hb⟩ := F
  refine Cal.mkP F hm sc_law_figures hb rfl rfl fun X W e1 e2 e3 e4 e5 b => ?_
  subst e1 e2 e3 e4 e5
  have nd := sc_law_figures.nd
  have g_law_figures := b.gl "_law_figures" (by decide +kernel)
  have g_int := b.gl "int" (by decide +kernel)
  have v0 := fun {pos : Pos} => b.v (pos := pos) 0 "_law_value_here" (by decide +kernel)
  have v2 := fun {pos : Pos} => b.v (pos := pos) 2 "_law_rest" (by decide +kernel)
  have v1 := fun {pos : Pos} => b.v (pos := pos) 1 "_law_digits" (by decide +kernel)
  exact (Ss.cons (St.ite (B.lt v0 E.int) (Ss.one (St.ret (E.add false E.str (E.call c_law_figures b.room b.tk g_law_figures (A.cons (E.neg un_neg v0) A.nil) (hk := by omega))))) Ss.nil)
  (Ss.cons (b.set nd 1 "_law_digits" (by decide +kernel) (E.lst true A.nil))
  (Ss.cons (b.set nd 2 "_law_rest" (by decide +kernel) v0)
  (Ss.cons (St.whl b.po (B.gt v2 E.int) (Ss.cons (St.expr (E.bm PySem.F.plainAttrs_list PySem.F.slot_list_append PySem.F.type_list_append mt_append mtf_append v1 (A.cons (E.ix E.str (E.mod (E.callTy call_int1 cf_int1 g_int z_int (by decide +kernel) (A.cons v2 A.nil)) E.int)) A.nil)))
  (Ss.one (b.set nd 2 "_law_rest" (by decide +kernel) (E.fdiv v2 E.int)))))
  (Ss.cons (St.expr (E.bm PySem.F.plainAttrs_list PySem.F.slot_list_append PySem.F.type_list_append mt_append mtf_append v1 (A.cons (E.ix E.str v2) A.nil)))
  (Ss.cons (St.expr (E.bm0 PySem.F.plainAttrs_list PySem.F.slot_list_reverse PySem.F.type_list_reverse mt_reverse mtf_reverse (fun h => pe_bm0 PySem.F.plainAttrs_list PySem.F.slot_list_reverse PySem.F.type_list_reverse mt_reverse h) v1))
  (Ss.one (St.ret (E.bm PySem.F.plainAttrs_str PySem.F.slot_str_join PySem.F.type_str_join mt_join mtf_join E.str (A.cons v1 A.nil))))))))))
theorem d_law_figures {P : Program} {w : World} {K : PySem.W.Frag} {mg : Str → Option Value} {base : Heap} (F : DefAt K mg "_law_figures" (topS 56) ["_law_value_here"]) (z_int : mg "int" = none) : ∀ n, Cal P w K mg base (0 + n) "_law_figures" (spP ⟨K, mg⟩ (f_law_figures n))
  | 0 => F.badP (f_law_figures 0) (fun _ => rfl)
  | n + 1 => b_law_figures n F z_int (d_law_figures F z_int n)
theorem sc_law_item : FnScope ["_law_value_here"] ["_law_value_here"] (defScope (topS 57)) := ⟨rfl, rfl, rfl, by decide +kernel, rfl, by decide +kernel, by decide +kernel⟩
theorem d_law_item {P : Program} {w : World} {K : PySem.W.Frag} {mg : Str → Option Value} {base : Heap} (F : DefAt K mg "_law_item" (topS 57) ["_law_value_here"]) (c_law_figures : Cal P w K mg base 10 "_law_figures" (spP ⟨K, mg⟩ (f_law_figures 10))) (z_int : mg "int" = none) (z_isinstance : mg "isinstance" = none) : Cal P w K mg base 12 "_law_item" (spP ⟨K, mg⟩ f_law_item) := by
  obtain ⟨f, fd, F, hm, hb⟩ := F
  refine Cal.mkP F hm sc_law_item hb rfl rfl fun X W e1 e2 e3 e4 e5 b => ?_
  subst e1 e2 e3 e4 e5
  have nd := sc_law_item.nd
  have g_int := b.gl "int" (by decide +kernel)
  have g_isinstance := b.gl "isinstance" (by decide +kernel)
  have g_law_figures := b.gl "_law_figures" (by decide +kernel)
  have v0 := fun {pos : Pos} => b.v (pos := pos) 0 "_law_value_here" (by decide +kernel)
  exact (Ss.cons (St.ite (B.tru (E.callB call_isi cf_isi g_isinstance z_isinstance (by decide +kernel) (A.cons v0 (A.cons (E.ty g_int z_int (by decide +kernel)) A.nil)))) (Ss.one (St.ret (E.call c_law_figures b.room b.tk g_law_figures (A.cons v0 A.nil)))) Ss.nil)
  (Ss.cons (St.ite (B.isN v0) (Ss.one (St.ret E.str)) Ss.nil)
  (Ss.one (St.ret v0))))
theorem sc_law : FnScope ["_law_script", "_law_draws", "_law_code", "_law_lines", "_law_handlers", "_law_names", "_law_k", "_law_unit", "_law_rows", "_law_handler", "_law_text", "_law_again", "_law_item_here"] ["_law_script"] (defScope (topS 58)) := ⟨rfl, rfl, rfl, by decide +kernel, rfl, by decide +kernel, by decide +kernel⟩
theorem d_law {P : Program} {w : World} {K : PySem.W.Frag} {mg : Str → Option Value} {base : Heap} {f : Addr} {fd : FuncData} (F : FunD K "law" "law" (defArgs (topS 58)) (defBody (topS 58)) (defScope (topS 58)) [] [] f fd) (c_law_begin : Cal P w K mg base 1 "_law_begin" (spW ⟨K, mg⟩ f_law_begin)) (c_law_parts : Cal P w K mg base 16 "_law_parts" (spW ⟨K, mg⟩ f_law_parts)) (c_write : Cal P w K mg base 2 "write" (spP ⟨K, mg⟩ f_write)) (c_read : Cal P w K mg base 6 "read" (spP ⟨K, mg⟩ f_read)) (c_law_word : Cal P w K mg base 2 "_law_word" (spW ⟨K, mg⟩ f_law_word)) (c_law_item : Cal P w K mg base 12 "_law_item" (spP ⟨K, mg⟩ f_law_item)) (z_range : mg "range" = none) (z_len : mg "len" = none) (mk3_Unit : Mka P w K mg base 4 "Unit" i_Unit_init 3 []) (z_str : mg "str" = none) (z_isinstance : mg "isinstance" = none) (q_Unit : EqT P w K mg base 1 "Unit" f_Unit_eq) (is_Unit : IsoT K mg "Unit") : FnOk P w K mg base (L2.CX P w) 17 f fd ["_law_script"] (spP ⟨K, mg⟩ f_law) := by
  refine fnP F sc_law rfl rfl fun X W e1 e2 e3 e4 e5 b => ?_
  subst e1 e2 e3 e4 e5
  have nd := sc_law.nd
  have g_law_begin := b.gl "_law_begin" (by decide +kernel)
  have g_law_parts := b.gl "_law_parts" (by decide +kernel)
  have g_range := b.gl "range" (by decide +kernel)
  have g_len := b.gl "len" (by decide +kernel)
  have g_Unit := b.gl "Unit" (by decide +kernel)
  have g_write := b.gl "write" (by decide +kernel)
  have g_str := b.gl "str" (by decide +kernel)
  have g_isinstance := b.gl "isinstance" (by decide +kernel)
  have g_read := b.gl "read" (by decide +kernel)
  have v0 := fun {pos : Pos} => b.v (pos := pos) 0 "_law_script" (by decide +kernel)
  have v1 := fun {pos : Pos} => b.v (pos := pos) 1 "_law_draws" (by decide +kernel)
  have v2 := fun {pos : Pos} => b.v (pos := pos) 2 "_law_code" (by decide +kernel)
  have v6 := fun {pos : Pos} => b.v (pos := pos) 6 "_law_k" (by decide +kernel)
  have v5 := fun {pos : Pos} => b.v (pos := pos) 5 "_law_names" (by decide +kernel)
  have v3 := fun {pos : Pos} => b.v (pos := pos) 3 "_law_lines" (by decide +kernel)
  have v4 := fun {pos : Pos} => b.v (pos := pos) 4 "_law_handlers" (by decide +kernel)
  have v8 := fun {pos : Pos} => b.v (pos := pos) 8 "_law_rows" (by decide +kernel)
  have v9 := fun {pos : Pos} => b.v (pos := pos) 9 "_law_handler" (by decide +kernel)
  have v7 := fun {pos : Pos} => b.v (pos := pos) 7 "_law_unit" (by decide +kernel)
  have v10 := fun {pos : Pos} => b.v (pos := pos) 10 "_law_text" (by decide +kernel)
  have v11 := fun {pos : Pos} => b.v (pos := pos) 11 "_law_again" (by decide +kernel)
  have t6 := fun {pos : Pos} => b.t (pos := pos) nd 6 "_law_k" (by decide +kernel)
  have t9 := fun {pos : Pos} => b.t (pos := pos) nd 9 "_law_handler" (by decide +kernel)
  exact (Ss.cons (b.set nd 1 "_law_draws" (by decide +kernel) (E.callW c_law_begin b.room b.tk g_law_begin (A.cons v0 A.nil)))
  (Ss.cons (St.asg (E.callW c_law_parts b.room b.tk g_law_parts (A.cons v1 A.nil)) (Tg.un b.calm (gns_cons (b.pg nd 2 "_law_code" (by decide +kernel)) (gns_cons (b.pg nd 3 "_law_lines" (by decide +kernel)) (gns_cons (b.pg nd 4 "_law_handlers" (by decide +kernel)) gns_nil)))))
  (Ss.cons (Body.setLc (own := [("_law_k", 6)]) false b nd 5 "_law_names" (by decide +kernel) (I.r1 g_range z_range (A.cons E.int A.nil)) (by decide +kernel) (CG.name (by decide)) (fun _ _ _ _ _ => blk_pg b.hN b.sc nd 6 "_law_k" (by decide +kernel)) (fun _ _ _ _ _ => Ts.nil) (fun _ _ _ _ _ => (E.callW c_law_word b.room takes0 (b.bk.gl "_law_word" (by decide +kernel)) (A.cons (b.bk.v 1 "_law_draws" (by decide +kernel)) A.nil))))
  (Ss.cons (St.for b.po b.calm (I.r1 g_range z_range (A.cons (E.callB cr_len cf_len g_len z_len (by decide +kernel) (A.cons v2 A.nil)) A.nil)) t6 (Ss.one (St.ite (B.cmp (or_in b.hu65) opf_in (E.ix (E.ix v2 v6) E.int) (E.tup (A.cons E.str (A.cons E.str A.nil))) (by with_unfolding_all rfl)) (Ss.one (St.asg (E.tup (A.cons (E.ix (E.ix v2 v6) E.int) (A.cons (E.ix v5 (E.bm PySem.F.plainAttrs_list PySem.F.slot_list_index PySem.F.type_list_index mt_index mtf_lindex (E.lst false (A.cons E.str (A.cons E.str (A.cons E.str A.nil)))) (A.cons (E.ix (E.ix v2 v6) E.int) A.nil))) A.nil))) (Tg.sub v2 v6 set_list set_lst))) Ss.nil)))
  (Ss.cons (b.set nd 7 "_law_unit" (by decide +kernel) (E.make mk3_Unit b.room b.tk g_Unit (A.cons v2 (A.cons v3 (A.cons v4 A.nil)))))
  (Ss.cons (b.set nd 8 "_law_rows" (by decide +kernel) (E.lst true A.nil))
  (Ss.cons (St.for b.po b.calm (I.r1 g_range z_range (A.cons (E.callB cr_len cf_len g_len z_len (by decide +kernel) (A.cons v2 A.nil)) A.nil)) t6 (Ss.one (St.expr (E.bm PySem.F.plainAttrs_list PySem.F.slot_list_append PySem.F.type_list_append mt_append mtf_append v8 (A.cons (E.bm PySem.F.plainAttrs_str PySem.F.slot_str_join PySem.F.type_str_join mt_join mtf_join E.str (A.cons (E.lc (own := [("_law_item_here", 12)]) false b.calm (b.hN ▸ nd) (I.any (E.add false (E.tup (A.cons (E.ix v3 v6) A.nil)) (E.ix v2 v6))) (b.blk (by decide +kernel)) (CG.name (by decide)) (fun _ _ _ _ _ => blk_pg b.hN b.sc nd 12 "_law_item_here" (by decide +kernel)) (fun _ _ _ _ _ => Ts.nil) (fun _ _ _ _ _ => (E.call c_law_item b.room takes0 (b.bk.gl "_law_item" (by decide +kernel)) (A.cons (b.bk.v 12 "_law_item_here" (by decide +kernel)) A.nil)))) A.nil)) A.nil)))))
  (Ss.cons (St.for b.po b.calm (I.any v4) t9 (Ss.one (St.expr (E.bm PySem.F.plainAttrs_list PySem.F.slot_list_append PySem.F.type_list_append mt_append mtf_append v8 (A.cons (E.bm PySem.F.plainAttrs_str PySem.F.slot_str_join PySem.F.type_str_join mt_join mtf_join E.str (A.cons (E.add false (E.lst false (A.cons E.str A.nil)) (E.lc (own := [("_law_item_here", 12)]) false b.calm (b.hN ▸ nd) (I.any v9) (b.blk (by decide +kernel)) (CG.name (by decide)) (fun _ _ _ _ _ => blk_pg b.hN b.sc nd 12 "_law_item_here" (by decide +kernel)) (fun _ _ _ _ _ => Ts.nil) (fun _ _ _ _ _ => (E.call c_law_item b.room takes0 (b.bk.gl "_law_item" (by decide +kernel)) (A.cons (b.bk.v 12 "_law_item_here" (by decide +kernel)) A.nil))))) A.nil)) A.nil)))))
  (Ss.cons (b.set nd 10 "_law_text" (by decide +kernel) (E.call c_write b.room b.tk g_write (A.cons v7 A.nil)))
  (Ss.cons (St.ite (BW.t (BW.or (B.not (B.tru (E.callB call_isi cf_isi g_isinstance z_isinstance (by decide +kernel) (A.cons v10 (A.cons (E.ty g_str z_str (by decide +kernel)) A.nil))))) (BW.or1 (B.ne b.hu v10 (E.bm PySem.F.plainAttrs_str PySem.F.slot_str_join PySem.F.type_str_join mt_join mtf_join E.str (A.cons v8 A.nil)))))) (Ss.one (St.ret E.bl)) Ss.nil)
  (Ss.cons (b.set nd 11 "_law_again" (by decide +kernel) (E.call c_read b.room b.tk g_read (A.cons v10 A.nil)))
  (Ss.one (St.ret (E.and (E.callB call_isi (cf_iso is_Unit) g_isinstance z_isinstance (by decide +kernel) (A.cons v11 (A.cons (E.gcls g_Unit is_Unit.gg) A.nil))) (E.and (E.eq2 q_Unit b.room b.hu v11 v7) (E.one (E.eq b.hu (E.call c_write b.room b.tk g_write (A.cons v11 A.nil)) v10)))))))))))))))))
end Law
namespace Law
open PySem PySem.Spec PyProof.Rows L2 Pv
def dd_in_range : He.DefD := ⟨("in_range", none), "in_range", "in_range", defArgs (topS 21), defBody (topS 21), defScope (topS 21), [], []⟩
def dd_is_word : He.DefD := ⟨("is_word", none), "is_word", "is_word", defArgs (topS 22), defBody (topS 22), defScope (topS 22), [], []⟩
def dd_fits_form : He.DefD := ⟨("fits_form", none), "fits_form", "fits_form", defArgs (topS 23), defBody (topS 23), defScope (topS 23), [], []⟩
def dd_is_handler : He.DefD := ⟨("is_handler", none), "is_handler", "is_handler", defArgs (topS 24), defBody (topS 24), defScope (topS 24), [], []⟩
def dd_raised_kind : He.DefD := ⟨("raised_kind", none), "raised_kind", "raised_kind", defArgs (topS 25), defBody (topS 25), defScope (topS 25), [], []⟩
def dd_receiver : He.DefD := ⟨("receiver", none), "receiver", "receiver", defArgs (topS 26), defBody (topS 26), defScope (topS 26), [], []⟩
def dd_moves : He.DefD := ⟨("moves", none), "moves", "moves", defArgs (topS 28), defBody (topS 28), defScope (topS 28), [], []⟩
def dd_check_parts : He.DefD := ⟨("check_parts", none), "check_parts", "check_parts", defArgs (topS 29), defBody (topS 29), defScope (topS 29), [], []⟩
def dd_depths_of : He.DefD := ⟨("depths_of", none), "depths_of", "depths_of", defArgs (topS 30), defBody (topS 30), defScope (topS 30), [], []⟩
def dd_Unit_init : He.DefD := ⟨("Unit", some "__init__"), "__init__", "Unit.__init__", defArgs (clsS (topS 31) 0), defBody (clsS (topS 31) 0), defScope (clsS (topS 31) 0), [.adr (He.dflAt ("Unit", some "__init__") 0)], []⟩
def dd_Unit_eq : He.DefD := ⟨("Unit", some "__eq__"), "__eq__", "Unit.__eq__", defArgs (clsS (topS 31) 3), defBody (clsS (topS 31) 3), defScope (clsS (topS 31) 3), [], []⟩
def dd_row_text : He.DefD := ⟨("row_text", none), "row_text", "row_text", defArgs (topS 34), defBody (topS 34), defScope (topS 34), [], []⟩
def dd_handler_text : He.DefD := ⟨("handler_text", none), "handler_text", "handler_text", defArgs (topS 35), defBody (topS 35), defScope (topS 35), [], []⟩
def dd_write : He.DefD := ⟨("write", none), "write", "write", defArgs (topS 36), defBody (topS 36), defScope (topS 36), [], []⟩
def dd_number_of : He.DefD := ⟨("number_of", none), "number_of", "number_of", defArgs (topS 37), defBody (topS 37), defScope (topS 37), [], []⟩
def dd_item_of : He.DefD := ⟨("item_of", none), "item_of", "item_of", defArgs (topS 38), defBody (topS 38), defScope (topS 38), [], []⟩
def dd_instruction_of : He.DefD := ⟨("instruction_of", none), "instruction_of", "instruction_of", defArgs (topS 39), defBody (topS 39), defScope (topS 39), [], []⟩
def dd_handler_of : He.DefD := ⟨("handler_of", none), "handler_of", "handler_of", defArgs (topS 40), defBody (topS 40), defScope (topS 40), [], []⟩
def dd_read : He.DefD := ⟨("read", none), "read", "read", defArgs (topS 41), defBody (topS 41), defScope (topS 41), [], []⟩
def dd_law_begin : He.DefD := ⟨("_law_begin", none), "_law_begin", "_law_begin", defArgs (topS 43), defBody (topS 43), defScope (topS 43), [], []⟩
def dd_law_draw : He.DefD := ⟨("_law_draw", none), "_law_draw", "_law_draw", defArgs (topS 44), defBody (topS 44), defScope (topS 44), [], []⟩
def dd_law_word : He.DefD := ⟨("_law_word", none), "_law_word", "_law_word", defArgs (topS 45), defBody (topS 45), defScope (topS 45), [], []⟩
def dd_law_number : He.DefD := ⟨("_law_number", none), "_law_number", "_law_number", defArgs (topS 46), defBody (topS 46), defScope (topS 46), [], []⟩
def dd_law_line : He.DefD := ⟨("_law_line", none), "_law_line", "_law_line", defArgs (topS 47), defBody (topS 47), defScope (topS 47), [], []⟩
def dd_law_value : He.DefD := ⟨("_law_value", none), "_law_value", "_law_value", defArgs (topS 48), defBody (topS 48), defScope (topS 48), [], []⟩
def dd_law_plain : He.DefD := ⟨("_law_plain", none), "_law_plain", "_law_plain", defArgs (topS 49), defBody (topS 49), defScope (topS 49), [], []⟩
def dd_law_choice : He.DefD := ⟨("_law_choice", none), "_law_choice", "_law_choice", defArgs (topS 50), defBody (topS 50), defScope (topS 50), [], []⟩
def dd_law_loop : He.DefD := ⟨("_law_loop", none), "_law_loop", "_law_loop", defArgs (topS 51), defBody (topS 51), defScope (topS 51), [], []⟩
def dd_law_guard : He.DefD := ⟨("_law_guard", none), "_law_guard", "_law_guard", defArgs (topS 52), defBody (topS 52), defScope (topS 52), [], []⟩
def dd_law_body : He.DefD := ⟨("_law_body", none), "_law_body", "_law_body", defArgs (topS 53), defBody (topS 53), defScope (topS 53), [], []⟩
def dd_law_parts : He.DefD := ⟨("_law_parts", none), "_law_parts", "_law_parts", defArgs (topS 54), defBody (topS 54), defScope (topS 54), [], []⟩
def dd_law_figures : He.DefD := ⟨("_law_figures", none), "_law_figures", "_law_figures", defArgs (topS 56), defBody (topS 56), defScope (topS 56), [], []⟩
def dd_law_item : He.DefD := ⟨("_law_item", none), "_law_item", "_law_item", defArgs (topS 57), defBody (topS 57), defScope (topS 57), [], []⟩
def dd_law : He.DefD := ⟨("law", none), "law", "law", defArgs (topS 58), defBody (topS 58), defScope (topS 58), [], []⟩
abbrev ini_BadInstruction : Stmt := clsS (topS 5) 0
def dd_ini_BadInstruction : He.DefD := ⟨("BadInstruction", some "__init__"), "__init__", "BadInstruction.__init__", defArgs ini_BadInstruction, defBody ini_BadInstruction, defScope ini_BadInstruction, [], []⟩
abbrev ini_BadTarget : Stmt := clsS (topS 6) 0
def dd_ini_BadTarget : He.DefD := ⟨("BadTarget", some "__init__"), "__init__", "BadTarget.__init__", defArgs ini_BadTarget, defBody ini_BadTarget, defScope ini_BadTarget, [], []⟩
abbrev ini_BadLine : Stmt := clsS (topS 7) 0
def dd_ini_BadLine : He.DefD := ⟨("BadLine", some "__init__"), "__init__", "BadLine.__init__", defArgs ini_BadLine, defBody ini_BadLine, defScope ini_BadLine, [], []⟩
abbrev ini_BadHandler : Stmt := clsS (topS 8) 0
def dd_ini_BadHandler : He.DefD := ⟨("BadHandler", some "__init__"), "__init__", "BadHandler.__init__", defArgs ini_BadHandler, defBody ini_BadHandler, defScope ini_BadHandler, [], []⟩
abbrev ini_BadText : Stmt := clsS (topS 9) 0
def dd_ini_BadText : He.DefD := ⟨("BadText", some "__init__"), "__init__", "BadText.__init__", defArgs ini_BadText, defBody ini_BadText, defScope ini_BadText, [], []⟩
def fnL : List He.DefD := [dd_in_range, dd_is_word, dd_fits_form, dd_is_handler, dd_raised_kind, dd_receiver, dd_moves, dd_check_parts, dd_depths_of, dd_Unit_init, dd_Unit_eq, dd_row_text, dd_handler_text, dd_write, dd_number_of, dd_item_of, dd_instruction_of, dd_handler_of, dd_read, dd_law_begin, dd_law_draw, dd_law_word, dd_law_number, dd_law_line, dd_law_value, dd_law_plain, dd_law_choice, dd_law_loop, dd_law_guard, dd_law_body, dd_law_parts, dd_law_figures, dd_law_item, dd_law, dd_ini_BadInstruction, dd_ini_BadTarget, dd_ini_BadLine, dd_ini_BadHandler, dd_ini_BadText]
def faL : List He.Fa := ([.glo "in_range", .glo "is_word", .glo "fits_form", .glo "is_handler", .glo "raised_kind", .glo "receiver", .glo "moves", .glo "check_parts", .glo "depths_of", .glo "Unit", .glo "Unit", .glo "row_text", .glo "handler_text", .glo "write", .glo "number_of", .glo "item_of", .glo "instruction_of", .glo "handler_of", .glo "read", .glo "_law_begin", .glo "_law_draw", .glo "_law_word", .glo "_law_number", .glo "_law_line", .glo "_law_value", .glo "_law_plain", .glo "_law_choice", .glo "_law_loop", .glo "_law_guard", .glo "_law_body"] : List He.Fa) ++ ([.glo "_law_parts", .glo "_law_figures", .glo "_law_item", .glo "law", .free "bool", .free "isinstance", .free "int", .free "len", .free "str", .free "tuple", .free "enumerate", .free "max", .free "range", .free "zip", .free "list", .str "LETTERS" c_LETTERS, .glo "PLAIN", .glo "NAMED", .glo "JUMPS", .glo "LAST", .int "GREATEST" c_GREATEST, .int "LINES" c_LINES, .int "MOST" c_MOST, .str "FIGURES" c_FIGURES] : List He.Fa)
def tsL : List He.Tab := [(fun K => He.ga K "REMOVED", ["store", "pop", "copy", "add", "sub", "div", "less", "not", "print", "jumpif"]), (fun K => He.ga K "PUSHED", ["const", "load", "copy", "add", "sub", "div", "less", "not"])]
def exB (K : PySem.W.Frag) : Bool := (He.tupB K "PLAIN" (c_PLAIN.map fun s => .str s) && (He.tupB K "NAMED" (c_NAMED.map fun s => .str s) && (He.tupB K "JUMPS" (c_JUMPS.map fun s => .str s) && (He.tupB K "LAST" (c_LAST.map fun s => .str s) && (excB K "BadCode" && (excB K "FallsOff" && (excB K "BadDepth" && (oexB K "BadInstruction" "index" && (oexB K "BadTarget" "index" && (oexB K "BadLine" "index" && (oexB K "BadHandler" "index" && (oexB K "BadText" "row" && (oexB K "BadText" "word" && (He.Fa.ok K (.glo "REMOVED") && (mapB K "REMOVED" c_REMOVED && (He.Fa.ok K (.glo "PUSHED") && (mapB K "PUSHED" c_PUSHED && (attB K "Unit" "code" && (attB K "Unit" "lines" && (attB K "Unit" "handlers" && (attB K "Unit" "found_depths" && (He.Fa.ok K (.glo "Unit") && (He.Fa.ok K (.meth "Unit" "__eq__") && (isoB K "Unit" && (He.Fa.ok K (.glo "Unit") && (He.Fa.ok K (.mkr "Unit") && (dfTB K ("Unit", some "__init__") 0 && true)))))))))))))))))))))))))))
def looseL : List PySem.Str := (["TableError", "BadCode", "FallsOff", "BadDepth", "BadInstruction", "BadTarget", "BadLine", "BadHandler", "BadText", "LETTERS", "PLAIN", "NAMED", "JUMPS", "LAST", "REMOVED", "PUSHED", "GREATEST", "LINES", "MOST", "in_range", "is_word", "fits_form", "is_handler", "raised_kind", "receiver", "moves", "check_parts", "depths_of", "Unit", "FIGURES"] : List PySem.Str) ++ (["row_text", "handler_text", "write", "number_of", "item_of", "instruction_of", "handler_of", "read", "_law_begin", "_law_draw", "_law_word", "_law_number", "_law_line", "_law_value", "_law_plain", "_law_choice", "_law_loop", "_law_guard", "_law_body", "_law_parts", "_law_inputs", "_law_figures", "_law_item"] : List PySem.Str)
abbrev RR : PySem.W.OpenRow := PySem.W.OpenLaw.row PySem.Challenge.rw_codetables_k29_texts_there_and_back
abbrev hk : PySem.W.Hook := He.hookX 6 faL fnL tsL [] exB
def ob (s : PySem.W.SharedT) : He.AlX := He.obsX 6 faL fnL tsL [] exB (HandSHeadRun.getT s)
theorem ob_eq (s : PySem.W.SharedT) : ob s = hk.obs s.abs := He.obsX_eq (HandSHeadRun.getT_eq s)
theorem run_t (w : World) : HandSHeadRun.RunEq RR (PySem.W.view RR.prog [58]) hk ob 9000 looseL (w.withFollow "special-get-raises" true) := by
  intro os
  kernel_rfl
theorem run_f (w : World) : HandSHeadRun.RunEq RR (PySem.W.view RR.prog [58]) hk ob 9000 looseL (w.withFollow "special-get-raises" false) := by
  intro os
  kernel_rfl
theorem run (w : World) : HandSHeadRun.RunEq RR (PySem.W.view RR.prog [58]) hk ob 9000 looseL w := by
  have h : ∀ b, HandSHeadRun.RunEq RR (PySem.W.view RR.prog [58]) hk ob 9000 looseL (w.withFollow "special-get-raises" b) := fun b => by
    cases b with
    | true => exact run_t w
    | false => exact run_f w
  have := h (w.params.followText "special-get-raises")
  rwa [World.withFollow_self] at this
end Law
namespace Law
open PySem PySem.Spec PyProof.Rows L2 Pv
/-! ### the draws -/
abbrev drL (ns : List Int) (a : Nat) (h s : Int) : List PV := [.con .own .lst (ns.map PV.int), .int a, .int h, .int s]
abbrev drO (ns : List Int) (a : Nat) (h s : Int) : Option (Kd × List PV) := some (.lst, drL ns a h s)
theorem draw_r3 (S : Sto) (n : Nat) (ns : List Int) (m : Int) (x : Option PV) (a : Nat) (h s : Int) (hl : n < S.length) (h0 : 0 ≤ h) (hm : 0 < m) (hm2 : m < 1073741824) :
    ∃ r a' h' s', ruwK (r3_law_draw [some (.ref n), some (.int m), none, x] (S.set n (drO ns a h s))) = .ok (.int r) (S.set n (drO ns a' h' s')) ∧ 0 ≤ r ∧ r < m ∧ 0 ≤ h' := by
  by_cases hp : 0 < h
  · refine ⟨h % m, a, h / m, s, ?_, Int.emod_nonneg _ (by omega), Int.emod_lt_of_pos _ hm, Int.ediv_nonneg h0 (by omega)⟩
    simp [r3_law_draw, i1_law_draw, r2_law_draw, hl, atI, ixN, hp, hm, CDiv, hm2]
  · refine ⟨(s * 16807) % 2147483629 % m, a, h, s, ?_, Int.emod_nonneg _ (by omega), Int.emod_lt_of_pos _ hm, h0⟩
    simp [r3_law_draw, i1_law_draw, r2_law_draw, hl, atI, ixN, hp, hm, CMul]
theorem draw_ok (S : Sto) (n : Nat) (ns : List Int) (a : Nat) (h s m : Int) (hn : S[n]? = some (drO ns a h s)) (h0 : 0 ≤ h) (hm : 0 < m) (hm2 : m < 1073741824) :
    ∃ r a' h' s', f_law_draw [.ref n, .int m] S = .ok (.int r) (S.set n (drO ns a' h' s')) ∧ 0 ≤ r ∧ r < m ∧ 0 ≤ h' := by
  have hl : n < S.length := (List.getElem?_eq_some_iff.mp hn).1
  have hg : S[n]'hl = drO ns a h s := (List.getElem?_eq_some_iff.mp hn).2
  have go : ∃ x a1 h1 s1, 0 ≤ h1 ∧ f_law_draw [.ref n, .int m] S = ruwK (r3_law_draw [some (.ref n), some (.int m), none, x] (S.set n (drO ns a1 h1 s1))) := by
    unfold f_law_draw
    rw [runW_eq (np := 2) rfl]
    unfold body_law_draw
    by_cases hz : h = 0
    · subst hz
      by_cases ha : a < ns.length
      · by_cases hb : 1000000000000000000 ≤ ns[a]
        · refine ⟨some (.int ns[a]), a + 1, ns[a], s, by omega, ?_⟩
          simp [i0_law_draw, hg, hl, atI, ixN, ha, hb, CPow, drO, drL]
        · refine ⟨some (.int ns[a]), a + 1, 0, (s * 48271 + ns[a] * 69621 + 11) % 2147483647, by omega, ?_⟩
          simp [i0_law_draw, hg, hl, atI, ixN, ha, hb, CPow, CMul, drO, drL]
      · refine ⟨none, a, 0, (s * 48271 + 7) % 2147483647, by omega, ?_⟩
        simp [i0_law_draw, hg, hl, atI, ixN, ha, CPow, CMul]
    · refine ⟨none, a, h, s, h0, ?_⟩
      have e : S.set n (drO ns a h s) = S := by
        apply List.ext_getElem?
        intro i
        by_cases q : n = i
        · subst q; rw [List.getElem?_set_self hl, hn]
        · rw [List.getElem?_set_ne q]
      rw [e]
      simp [hg, hl, atI, ixN, hz]
  obtain ⟨x, a1, h1, s1, q1, q2⟩ := go
  rw [q2]
  exact draw_r3 S n ns m x a1 h1 s1 hl q1 hm hm2
end Law
namespace Law
open PySem PySem.Spec PyProof.Rows L2 Pv
/-- the draws stand at n -/
def DR (n : Nat) (ns : List Int) (S : Sto) : Prop := ∃ a h s, S[n]? = some (drO ns a h s) ∧ 0 ≤ h
/-- nothing but the draws changed -/
def Fr (n : Nat) (S S' : Sto) : Prop := S'.length = S.length ∧ ∀ i, i ≠ n → S'[i]? = S[i]?
theorem Fr.refl {n : Nat} {S : Sto} : Fr n S S := ⟨rfl, fun _ _ => rfl⟩
theorem Fr.trans {n : Nat} {S S1 S2 : Sto} (h : Fr n S S1) (h2 : Fr n S1 S2) : Fr n S S2 := ⟨h2.1.trans h.1, fun i q => (h2.2 i q).trans (h.2 i q)⟩
theorem draw {S : Sto} {n : Nat} {ns : List Int} (d : DR n ns S) (m : Int) (hm : 0 < m) (hm2 : m < 1073741824) :
    ∃ r S', f_law_draw [.ref n, .int m] S = .ok (.int r) S' ∧ 0 ≤ r ∧ r < m ∧ DR n ns S' ∧ Fr n S S' := by
  obtain ⟨a, h, s, e, h0⟩ := d
  obtain ⟨r, a', h', s', q, r0, r1, q0⟩ := draw_ok S n ns a h s m e h0 hm hm2
  have hl : n < S.length := (List.getElem?_eq_some_iff.mp e).1
  refine ⟨r, _, q, r0, r1, ⟨a', h', s', List.getElem?_set_self hl, q0⟩, List.length_set, fun i hi => List.getElem?_set_ne (Ne.symm hi)⟩
theorem begin_ok (ns : List Int) (S : Sto) (h : ns.length ≤ 63) : f_law_begin [scr ns] S = .ok (.ref S.length) (S ++ [drO ns 0 0 7]) := by
  unfold f_law_begin
  rw [runW_eq (np := 1) rfl]
  simp [body_law_begin, scr, listF, newP, szl, drO, drL]
end Law
/-! W1: what a mirror gives, by its form (a small calculus of wishes). -/
namespace Pv
open PySem PySem.Spec PyProof.Rows L2
/-- r is a value, Q of it -/
def okR {α : Type} (r : R α) (Q : α → Sto → Prop) : Prop := match r with
  | .ok v S => Q v S
  | _ => False
theorem okR.eq {α : Type} {r : R α} {Q : α → Sto → Prop} (h : okR r Q) : ∃ v S, r = .ok v S ∧ Q v S := by
  cases r with
  | ok v S => exact ⟨v, S, rfl, h⟩
  | ex c fs S => exact h.elim
  | bad => exact h.elim
theorem okR.mono {α : Type} {r : R α} {Q Q' : α → Sto → Prop} (h : okR r Q) (k : ∀ v S, Q v S → Q' v S) : okR r Q' := by
  cases r with
  | ok v S => exact k v S h
  | ex c fs S => exact h
  | bad => exact h
theorem okR.bind {α β : Type} {r : R α} {k : α → Sto → R β} {Q : β → Sto → Prop} (h : okR r fun v S => okR (k v S) Q) : okR (r.bind k) Q := by
  cases r with
  | ok v S => exact h
  | ex c fs S => exact h
  | bad => exact h
theorem okR.of {α : Type} {r : R α} {v : α} {S : Sto} {Q : α → Sto → Prop} (e : r = .ok v S) (h : Q v S) : okR r Q := by rw [e]; exact h
/-- what a statement comes to -/
def rsP (r : RS) (P : RS → Prop) : Prop := P r
def thenS (u : SF) (P : RS → Prop) : RS → Prop
  | .nx Γ S => P (u Γ S)
  | r => P r
section
variable {Γ : Gam} {S : Sto} {P : RS → Prop} {t u : SF} {a b c : EF} {as : AF} {i : Nat} {v : PV} {Q : PV → Sto → Prop} {Qs : List PV → Sto → Prop}
theorem W.seq (h : rsP (t Γ S) (thenS u P)) : rsP (sSeq t u Γ S) P := by
  unfold rsP sSeq at *
  cases e : t Γ S with
  | nx Γ1 S1 => rw [e] at h; exact h
  | _ => rw [e] at h; exact h
theorem W.go (h : rsP (u Γ S) P) : rsP (.nx Γ S) (thenS u P) := h
theorem rsP.mono {r : RS} {P' : RS → Prop} (h : rsP r P) (k : ∀ r, P r → P' r) : rsP r P' := k _ h
theorem W.st {α : Type} {r : R α} {k : α → Sto → RS} (h : okR r fun v S1 => rsP (k v S1) P) : rsP (r.st Γ k) P := by
  cases r with
  | ok v S => exact h
  | ex c fs S => exact h.elim
  | bad => exact h.elim
theorem W.set (h : okR (a Γ S) fun v S1 => rsP (.nx (Γ.set i (some v)) S1) P) : rsP (sSet i a Γ S) P := W.st h
theorem W.expr (h : okR (a Γ S) fun _ S1 => rsP (.nx Γ S1) P) : rsP (sExpr a Γ S) P := W.st h
theorem W.ret (h : okR (a Γ S) fun v S1 => rsP (.rt v S1) P) : rsP (sRet a Γ S) P := W.st h
theorem W.asg {g : GF} (h : okR (a Γ S) fun v S1 => okR (g v Γ S1) fun Γ1 S2 => rsP (.nx Γ1 S2) P) : rsP (sAsg a g Γ S) P := W.st (h.mono fun _ _ h => W.st h)
theorem W.ite {s : BF} (h : okR (s Γ S) fun k S1 => (k = true → rsP (t Γ S1) P) ∧ (k = false → rsP (u Γ S1) P)) : rsP (sIf s t u Γ S) P := W.st (h.mono fun k S1 h => by
  cases k with
  | true => exact h.1 rfl
  | false => exact h.2 rfl)
theorem W.next (h : rsP (.nx Γ S) P) : rsP (sNext Γ S) P := h
theorem W.var (h : Γ[i]? = some (some v)) (q : Q v S) : okR (eV i Γ S) Q := by unfold eV; rw [h]; exact q
theorem W.con (q : Q v S) : okR (eC v Γ S) Q := q
theorem W.nil (q : Qs [] S) : okR (aNil Γ S) Qs := q
theorem W.cons (h : okR (a Γ S) fun v S1 => okR (as Γ S1) fun vs S2 => Qs (v :: vs) S2) : okR (aCons a as Γ S) Qs := okR.bind (h.mono fun _ _ h => okR.bind h)
theorem W.tup (h : okR (as Γ S) fun vs S1 => vs.length ≤ sizeLine ∧ Q (.con .own .tup vs) S1) : okR (eTup as Γ S) Q := okR.bind (h.mono fun vs S1 h => by rw [if_pos h.1]; exact h.2)
theorem W.lstF (h : okR (as Γ S) fun vs S1 => vs.length ≤ sizeLine ∧ Q (.con .own .lst vs) S1) : okR (eLst false as Γ S) Q := okR.bind (h.mono fun vs S1 h => by rw [if_pos h.1]; exact h.2)
theorem W.lstT (h : okR (as Γ S) fun vs S1 => vs.length ≤ sizeLine ∧ Q (.ref S1.length) (S1 ++ [some (.lst, vs)])) : okR (eLst true as Γ S) Q := okR.bind (h.mono fun vs S1 h => by rw [if_pos h.1]; exact h.2)
theorem W.op {f : OF} (h : okR (a Γ S) fun x S1 => okR (b Γ S1) fun y S2 => ∃ z S3, f x y S2 = some (z, S3) ∧ Q z S3) : okR (eOp f a b Γ S) Q := okR.bind (h.mono fun x S1 h => okR.bind (h.mono fun y S2 ⟨z, S3, e, q⟩ => by rw [e]; exact q))
theorem W.call {f : CF} (h : okR (as Γ S) fun vs S1 => ∃ z S3, f vs S1 = some (z, S3) ∧ Q z S3) : okR (eCall f as Γ S) Q := okR.bind (h.mono fun vs S1 ⟨z, S3, e, q⟩ => by rw [e]; exact q)
theorem W.callW {f : List PV → Sto → R PV} (h : okR (as Γ S) fun vs S1 => okR (f vs S1) Q) : okR (eCallW f as Γ S) Q := okR.bind h
theorem W.meth {T : String} {f : MF} (h : okR (a Γ S) fun p S1 => tyP T S1 p = true ∧ okR (as Γ S1) fun vs S2 => ∃ z S3, f p vs S2 = some (z, S3) ∧ Q z S3) : okR (eM T f a as Γ S) Q := okR.bind (h.mono fun p S1 h => by
  rw [if_pos h.1]
  exact okR.bind (h.2.mono fun vs S2 ⟨z, S3, e, q⟩ => by rw [e]; exact q))
section
variable {s s' : BF} {B : Bool → Sto → Prop}
theorem W.bE (h : okR (a Γ S) fun v S1 => ∃ k, v = .bl k ∧ B k S1) : okR (bE a Γ S) B := okR.bind (h.mono fun v S1 ⟨k, e, q⟩ => by rw [e]; exact q)
theorem W.or (h : okR (s Γ S) fun k S1 => (k = true → B true S1) ∧ (k = false → okR (s' Γ S1) B)) : okR (bOr s s' Γ S) B := okR.bind (h.mono fun k S1 h => by
  cases k with
  | true => exact h.1 rfl
  | false => exact h.2 rfl)
theorem W.and (h : okR (s Γ S) fun k S1 => (k = true → okR (s' Γ S1) B) ∧ (k = false → B false S1)) : okR (bAnd s s' Γ S) B := okR.bind (h.mono fun k S1 h => by
  cases k with
  | true => exact h.1 rfl
  | false => exact h.2 rfl)
theorem W.not (h : okR (s Γ S) fun k S1 => B (!k) S1) : okR (bNot s Γ S) B := okR.bind h
end
/-- a def that changes its arguments -/
theorem W.run {np n : Nat} {body : SF} {args : List PV} (hl : args.length = np) (h : rsP (body (args.map some ++ List.replicate (n - args.length) none) S) fun r => match r with
    | .nx _ S' => Q .non S'
    | .rt v S' => Q v S'
    | _ => False) : okR (runW np n body args S) Q := by
  unfold runW
  rw [if_pos hl]
  unfold rsP at h
  cases e : body (args.map some ++ List.replicate (n - args.length) none) S with
  | nx Γ S' => rw [e] at h; exact h
  | rt v S' => rw [e] at h; exact h
  | _ => rw [e] at h; exact h.elim
/-- whole numbers compared -/
theorem W.cmpI {f : Int → Int → Bool} (h : okR (a Γ S) fun x S1 => okR (b Γ S1) fun y S2 => ∃ i j : Int, x = .int i ∧ y = .int j ∧ Q (.bl (f i j)) S2) : okR (eOp (iOp0 fun i j => .bl (f i j)) a b Γ S) Q := W.op (h.mono fun x S1 h => h.mono fun y S2 ⟨i, j, e1, e2, q⟩ => ⟨_, _, by rw [e1, e2]; rfl, q⟩)
theorem W.eqI (h : okR (a Γ S) fun x S1 => okR (b Γ S1) fun y S2 => ∃ i j : Int, x = .int i ∧ y = .int j ∧ Q (.bl (decide (i = j))) S2) : okR (eOp eqF a b Γ S) Q := W.op (h.mono fun x S1 h => h.mono fun y S2 ⟨i, j, e1, e2, q⟩ => ⟨.bl (decide (i = j)), S2, by rw [e1, e2]; simp, q⟩)
end
end Pv
namespace Pv
open PySem PySem.Spec PyProof.Rows L2
section
variable {Γ : Gam} {S : Sto} {P : RS → Prop} {t u : SF} {i : Nat} {x y : Int} {Q : PV → Sto → Prop}
theorem W.iteLe (hi : Γ[i]? = some (some (.int x))) (h1 : x ≤ y → rsP (t Γ S) P) (h2 : ¬ x ≤ y → rsP (u Γ S) P) : rsP (sIf (Pv.bE (eOp leF (eV i) (eC (.int y)))) t u Γ S) P :=
  W.ite (W.bE (W.cmpI (f := fun i j => decide (i ≤ j)) (W.var hi (W.con ⟨x, y, rfl, rfl, _, rfl, fun h => h1 (of_decide_eq_true h), fun h => h2 (of_decide_eq_false h)⟩))))
theorem W.iteEq (hi : Γ[i]? = some (some (.int x))) (h1 : x = y → rsP (t Γ S) P) (h2 : ¬ x = y → rsP (u Γ S) P) : rsP (sIf (Pv.bE (eOp eqF (eV i) (eC (.int y)))) t u Γ S) P :=
  W.ite (W.bE (W.eqI (W.var hi (W.con ⟨x, y, rfl, rfl, _, rfl, fun h => h1 (of_decide_eq_true h), fun h => h2 (of_decide_eq_false h)⟩))))
end
end Pv
/-! Gd: programs as data: instructions, rows, handlers, depths. -/
namespace Law
open PySem PySem.Spec Pv
inductive Opc where
  | pop | copy | add | sub | div | less | not | print | skip | stop
def Opc.name : Opc → Str
  | .pop => "pop" | .copy => "copy" | .add => "add" | .sub => "sub" | .div => "div" | .less => "less" | .not => "not" | .print => "print" | .skip => "skip" | .stop => "end"
inductive Itr where
  | c (n : Int) | ld (w : Str) | sto (w : Str) | op (o : Opc) | fl (w : Str) | jp (t : Nat) | ji (t : Nat)
def Itr.pv : Itr → PV
  | .c n => .con .own .tup [.str "const", .int n]
  | .ld w => .con .own .tup [.str "load", .str w]
  | .sto w => .con .own .tup [.str "store", .str w]
  | .op o => .con .own .tup [.str o.name]
  | .fl w => .con .own .tup [.str "fail", .str w]
  | .jp t => .con .own .tup [.str "jump", .int t]
  | .ji t => .con .own .tup [.str "jumpif", .int t]
def Itr.rem : Itr → Nat
  | .c _ => 0 | .ld _ => 0 | .sto _ => 1 | .fl _ => 0 | .jp _ => 0 | .ji _ => 1
  | .op o => match o with
    | .pop => 1 | .copy => 1 | .add => 2 | .sub => 2 | .div => 2 | .less => 2 | .not => 1 | .print => 1 | .skip => 0 | .stop => 0
def Itr.push : Itr → Nat
  | .c _ => 1 | .ld _ => 1 | .sto _ => 0 | .fl _ => 0 | .jp _ => 0 | .ji _ => 0
  | .op o => match o with
    | .pop => 0 | .copy => 2 | .add => 1 | .sub => 1 | .div => 1 | .less => 1 | .not => 1 | .print => 0 | .skip => 0 | .stop => 0
/-- nothing leads on to the next -/
def Itr.last : Itr → Bool
  | .fl _ => true | .jp _ => true
  | .op o => match o with
    | .stop => true
    | _ => false
  | _ => false
def Itr.tgt : Itr → Option Nat
  | .jp t => some t | .ji t => some t
  | _ => none
/-- a variable, a kind of error: 1 to 8 small letters -/
def WdOk (w : Str) : Prop := 1 ≤ w.cps.toList.length ∧ w.cps.toList.length ≤ 8 ∧ ∀ c ∈ w.cps.toList, 97 ≤ c ∧ c ≤ 122
instance (w : Str) : Decidable (WdOk w) := inferInstanceAs (Decidable (_ ∧ _ ∧ _))
/-- its own values are as the document lists them -/
def Itr.good : Itr → Prop
  | .c n => -1000000000000000000000000000000 ≤ n ∧ n ≤ 1000000000000000000000000000000
  | .ld w => WdOk w
  | .sto w => WdOk w
  | .fl w => WdOk w
  | _ => True
/-- its variables are those that the maker uses -/
def Itr.abc : Itr → Prop
  | .ld w => w ∈ (["a", "b", "c"] : List Str)
  | .sto w => w ∈ (["a", "b", "c"] : List Str)
  | _ => True
theorem abc_tgt {i : Itr} {t : Nat} (h : i.tgt = some t) : i.abc := by cases i <;> first | trivial | cases h
structure Rw where
  i : Itr
  l : Nat
def Rw.pv (r : Rw) : PV := .con .own .lst [r.i.pv, .int r.l]
def Rw.good (r : Rw) : Prop := r.i.good ∧ r.l ≤ 1000000
structure Hnd where
  s : Nat
  e : Nat
  t : Nat
  d : Nat
  k : Option Str
def okP : Option Str → PV
  | none => .non
  | some w => .str w
def Hnd.pv (h : Hnd) : PV := .con .own .tup [.int h.s, .int h.e, .int h.t, .int h.d, okP h.k]
def Hnd.good (h : Hnd) : Prop := ∀ w, h.k = some w → WdOk w ∧ ¬ w = "any"
/-- the row at place j, between lo and hi, agrees with the depths D -/
structure RwOk (lo hi : Nat) (D : Nat → Nat) (j : Nat) (r : Rw) : Prop where
  good : r.good
  rem : r.i.rem ≤ D j
  nxt : r.i.last = false → D (j + 1) = D j - r.i.rem + r.i.push
  tgt : ∀ t, r.i.tgt = some t → lo ≤ t ∧ t ≤ hi ∧ D t = D j - r.i.rem + r.i.push
  abc : r.i.abc
structure HndOk (lo hi : Nat) (D : Nat → Nat) (h : Hnd) : Prop where
  good : h.good
  s0 : lo ≤ h.s
  se : h.s < h.e
  e1 : h.e ≤ hi
  t0 : lo ≤ h.t
  t1 : h.t ≤ hi
  dt : D h.t = h.d
  cov : ∀ j, h.s ≤ j → j < h.e → h.d ≤ D j
/-- a stretch of rows from place a on, its handlers, its depths -/
structure Sgm (a : Nat) (rs : List Rw) (hs : List Hnd) (D : Nat → Nat) : Prop where
  row : ∀ i r, rs[i]? = some r → RwOk a (a + rs.length) D (a + i) r
  hd : ∀ h ∈ hs, HndOk a (a + rs.length) D h
/-- a stretch that begins with depth b and ends with depth e; never less than f -/
def Blk (f a b e : Nat) (rs : List Rw) (hs : List Hnd) : Prop := ∃ D, Sgm a rs hs D ∧ D a = b ∧ D (a + rs.length) = e ∧ ∀ j, a ≤ j → j < a + rs.length → f ≤ D j
/-- rows from place a on within a greater stretch -/
structure Sg (lo hi a : Nat) (rs : List Rw) (hs : List Hnd) (D : Nat → Nat) : Prop where
  row : ∀ i r, rs[i]? = some r → RwOk lo hi D (a + i) r
  hd : ∀ h ∈ hs, HndOk lo hi D h
theorem RwOk.mono {lo hi lo' hi' : Nat} {D D' : Nat → Nat} {j : Nat} {r : Rw} (h : RwOk lo hi D j r) (h1 : lo' ≤ lo) (h2 : hi ≤ hi') (hj : lo ≤ j ∧ j < hi) (e : ∀ i, lo ≤ i → i ≤ hi → D' i = D i) : RwOk lo' hi' D' j r := by
  refine ⟨h.good, ?_, fun z => ?_, fun t z => ?_, h.abc⟩
  · rw [e j hj.1 (by omega)]; exact h.rem
  · rw [e j hj.1 (by omega), e (j + 1) (by omega) (by omega)]; exact h.nxt z
  · obtain ⟨t1, t2, t3⟩ := h.tgt t z
    exact ⟨by omega, by omega, by rw [e j hj.1 (by omega), e t t1 t2]; exact t3⟩
theorem HndOk.mono {lo hi lo' hi' : Nat} {D D' : Nat → Nat} {x : Hnd} (h : HndOk lo hi D x) (h1 : lo' ≤ lo) (h2 : hi ≤ hi') (e : ∀ i, lo ≤ i → i ≤ hi → D' i = D i) : HndOk lo' hi' D' x := by
  obtain ⟨g, a1, a2, a3, a4, a5, a6, a7⟩ := h
  exact ⟨g, by omega, a2, by omega, by omega, by omega, by rw [e x.t a4 (by omega)]; exact a6, fun j j1 j2 => by rw [e j (by omega) (by omega)]; exact a7 j j1 j2⟩
theorem Sg.app {lo hi a : Nat} {rs rs' : List Rw} {hs hs' : List Hnd} {D : Nat → Nat} (h : Sg lo hi a rs hs D) (h' : Sg lo hi (a + rs.length) rs' hs' D) : Sg lo hi a (rs ++ rs') (hs ++ hs') D := by
  refine ⟨fun i r q => ?_, fun x q => ?_⟩
  · by_cases z : i < rs.length
    · rw [List.getElem?_append_left z] at q
      exact h.row i r q
    · rw [List.getElem?_append_right (by omega)] at q
      have h1 := h'.row _ r q
      rw [show a + rs.length + (i - rs.length) = a + i by omega] at h1
      exact h1
  · rcases List.mem_append.mp q with q | q
    · exact h.hd x q
    · exact h'.hd x q
theorem Sg.of {lo hi a : Nat} {rs : List Rw} {hs : List Hnd} {D D' : Nat → Nat} (h : Sgm a rs hs D') (h1 : lo ≤ a) (h2 : a + rs.length ≤ hi) (e : ∀ i, a ≤ i → i ≤ a + rs.length → D i = D' i) : Sg lo hi a rs hs D :=
  ⟨fun i r q => (h.row i r q).mono h1 h2 ⟨by omega, by have := (List.getElem?_eq_some_iff.mp q).1; omega⟩ e, fun x q => (h.hd x q).mono h1 h2 e⟩
theorem Sg.one {lo hi a : Nat} {r : Rw} {D : Nat → Nat} (h : RwOk lo hi D a r) : Sg lo hi a [r] [] D := by
  refine ⟨fun i x q => ?_, fun x q => by simp at q⟩
  cases i with
  | zero => cases q; exact h
  | succ i => simp at q
theorem Blk.of {f a b e : Nat} {rs : List Rw} {hs : List Hnd} {D : Nat → Nat} (h : Sg a (a + rs.length) a rs hs D) (h1 : D a = b) (h2 : D (a + rs.length) = e) (h3 : ∀ j, a ≤ j → j < a + rs.length → f ≤ D j) : Blk f a b e rs hs := ⟨D, ⟨h.row, h.hd⟩, h1, h2, h3⟩
theorem Blk.nil {f a b : Nat} : Blk f a b b [] [] := ⟨fun _ => b, ⟨fun i r h => by simp at h, fun h q => by simp at q⟩, rfl, rfl, fun j h1 h2 => by simp at h2; omega⟩
theorem Blk.floor {f f' a b e : Nat} {rs : List Rw} {hs : List Hnd} (h : Blk f a b e rs hs) (k : f' ≤ f) : Blk f' a b e rs hs := by
  obtain ⟨D, s, d1, d2, d3⟩ := h
  exact ⟨D, s, d1, d2, fun j h1 h2 => Nat.le_trans k (d3 j h1 h2)⟩
theorem Blk.app {f a b m e : Nat} {rs rs' : List Rw} {hs hs' : List Hnd} (h : Blk f a b m rs hs) (h' : Blk f (a + rs.length) m e rs' hs') : Blk f a b e (rs ++ rs') (hs ++ hs') := by
  obtain ⟨D, s, d1, d2, d3⟩ := h
  obtain ⟨D', s', d1', d2', d3'⟩ := h'
  have hl : (rs ++ rs').length = rs.length + rs'.length := List.length_append
  have e1 : ∀ i, a ≤ i → i ≤ a + rs.length → (if i < a + rs.length then D i else D' i) = D i := fun i _ h2 => by
    by_cases z : i < a + rs.length
    · rw [if_pos z]
    · have : i = a + rs.length := by omega
      subst this
      rw [if_neg z, d2, d1']
  have e2 : ∀ i, a + rs.length ≤ i → i ≤ a + rs.length + rs'.length → (if i < a + rs.length then D i else D' i) = D' i := fun i h1 _ => if_neg (by omega)
  refine Blk.of (D := fun i => if i < a + rs.length then D i else D' i) ((Sg.of s (Nat.le_refl _) (by omega) e1).app (Sg.of s' (by omega) (by omega) e2)) ?_ ?_ fun j h1 h2 => ?_
  · exact (e1 a (Nat.le_refl _) (by omega)).trans d1
  · rw [hl, ← Nat.add_assoc]; exact (e2 _ (by omega) (Nat.le_refl _)).trans d2'
  · by_cases z : j < a + rs.length
    · rw [if_pos z]; exact d3 j h1 z
    · rw [if_neg z]; exact d3' j (by omega) (by omega)
/-- one row that goes on -/
theorem Blk.one {f a b e : Nat} {r : Rw} (g : r.good) (hr : r.i.rem ≤ b) (he : e = b - r.i.rem + r.i.push) (hl : r.i.last = false) (ht : r.i.tgt = none) (hf : f ≤ b) (ga : r.i.abc := by trivial) : Blk f a b e [r] [] := by
  refine Blk.of (D := fun i => if i = a then b else e) (Sg.one ⟨g, by simpa using hr, fun _ => by simp [he], fun t z => (by rw [ht] at z; cases z), ga⟩) (if_pos rfl) (if_neg (by simp)) fun j h1 h2 => ?_
  have : j = a := by simp at h2; omega
  subst this
  rw [if_pos rfl]; exact hf
/-- a row that nothing goes on from -/
theorem Blk.fail {a b e : Nat} {w : Str} {l : Nat} (g : (Rw.mk (.fl w) l).good) : Blk b a b e [⟨.fl w, l⟩] [] := by
  refine Blk.of (D := fun i => if i = a then b else e) (Sg.one ⟨g, Nat.zero_le _, fun z => (by cases z), fun t z => (by cases z), trivial⟩) (if_pos rfl) (if_neg (by simp)) fun j h1 h2 => ?_
  have : j = a := by simp at h2; omega
  subst this
  rw [if_pos rfl]; exact Nat.le_refl _
theorem Blk.jnext {a b l : Nat} (hl : l ≤ 1000000) : Blk b a b b [⟨.jp (a + 1), l⟩] [] :=
  Blk.of (D := fun _ => b) (Sg.one ⟨⟨trivial, hl⟩, Nat.zero_le _, fun z => (by cases z), fun t z => (by cases z; exact ⟨by omega, by simp, rfl⟩), trivial⟩) rfl rfl fun j _ _ => Nat.le_refl _
end Law
namespace Law
open PySem PySem.Spec PyProof.Rows L2 Pv
/-! Lists of ints. -/
theorem atI_nat {α : Type} {xs : List α} {i : Nat} : L2.atI xs (i : Int) = xs[i]? := by
  unfold L2.atI ixN
  rw [if_pos (by omega)]
  by_cases h : (i : Int) < xs.length
  · rw [if_pos (by omega)]; simp
  · rw [if_neg (by omega)]; simp; omega
end Law
/-! G2: the program maker: values and plain parts. -/
namespace Law
open PySem PySem.Spec PyProof.Rows L2 Pv
/-- the draws at n, the rows at r; else S is as S0 was -/
structure GS (ns : List Int) (n r : Nat) (S0 S : Sto) (ps : List PV) : Prop where
  dr : DR n ns S
  rw_ : S[r]? = some (some (.lst, ps))
  ne : n ≠ r
  len : S0.length ≤ S.length
  fr : ∀ i, i < S0.length → i ≠ n → i ≠ r → S[i]? = S0[i]?
section
variable {ns : List Int} {n r : Nat} {S0 S : Sto} {ps : List PV} {Γ : Gam} {i : Nat} {Q : PV → Sto → Prop} {P : RS → Prop} {t : EF} {as : AF}
theorem GS.lt (g : GS ns n r S0 S ps) : r < S.length := (List.getElem?_eq_some_iff.mp g.rw_).1
theorem gdrawR (g : GS ns n r S0 S ps) {m : Int} (hm : 0 < m) (hm2 : m < 1073741824) (k : ∀ (j : Nat) S', (j : Int) < m → GS ns n r S0 S' ps → Q (.int j) S') : okR (f_law_draw [.ref n, .int m] S) Q := by
  obtain ⟨x, S', e, x0, x1, d, f⟩ := draw g.dr m hm hm2
  obtain ⟨j, rfl⟩ : ∃ j : Nat, x = j := ⟨x.toNat, by omega⟩
  exact okR.of e (k j S' x1 ⟨d, (f.2 r (Ne.symm g.ne)).trans g.rw_, g.ne, by rw [f.1]; exact g.len, fun i h1 h2 h3 => (f.2 i h2).trans (g.fr i h1 h2 h3)⟩)
theorem gdraw (g : GS ns n r S0 S ps) {m : Int} (hi : Γ[i]? = some (some (.ref n))) (k : ∀ (j : Nat) S', (j : Int) < m → GS ns n r S0 S' ps → Q (.int j) S') (hm : 0 < m := by decide) (hm2 : m < 1073741824 := by decide) :
    okR (eCallW f_law_draw (aCons (eV i) (aCons (eC (.int m)) aNil)) Γ S) Q := W.callW (W.cons (W.var hi (W.cons (W.con (W.nil (gdrawR g hm hm2 k))))))
theorem GS.push (g : GS ns n r S0 S ps) (v : PV) : GS ns n r S0 (S.set r (some (.lst, ps ++ [v]))) (ps ++ [v]) := by
  obtain ⟨a, h, s, e, h0⟩ := g.dr
  refine ⟨⟨a, h, s, by rw [List.getElem?_set_ne (Ne.symm g.ne)]; exact e, h0⟩, List.getElem?_set_self g.lt, g.ne, by rw [List.length_set]; exact g.len, fun i h1 h2 h3 => by rw [List.getElem?_set_ne (Ne.symm h3)]; exact g.fr i h1 h2 h3⟩
theorem gapp (g : GS ns n r S0 S ps) (hi : Γ[i]? = some (some (.ref r))) (hz : ps.length < 100000) (h : okR (t Γ S) fun v S1 => GS ns n r S0 S1 ps ∧ ∀ S2, GS ns n r S0 S2 (ps ++ [v]) → rsP (.nx Γ S2) P) :
    rsP (sExpr (eM "list" appendF (eV i) (aCons t aNil)) Γ S) P := by
  refine W.expr (W.meth (W.var hi ⟨?_, W.cons (h.mono fun v S1 ⟨g1, k⟩ => W.nil ?_)⟩))
  · rw [tyP_refD, g.rw_]; rfl
  · refine ⟨.non, _, ?_, k _ (g1.push v)⟩
    have z : ps.length < sizeLine := by have : sizeLine = 16777216 := sizeLine_eq; omega
    show lstF _ _ _ _ = _
    unfold lstF
    simp only [g1.rw_, Option.join_some]
    rw [if_pos z]
    rfl
theorem gpick {vs : List PV} {m : Int} (g : GS ns n r S0 S ps) (ha : as Γ S = .ok vs S) (hi : Γ[i]? = some (some (.ref n))) (hl : m = vs.length) (k : ∀ v ∈ vs, ∀ S', GS ns n r S0 S' ps → Q v S') (h0 : 0 < m := by decide) (h1 : m < 100 := by decide) :
    okR (eOp ixF (eLst false as) (eCallW f_law_draw (aCons (eV i) (aCons (eC (.int m)) aNil))) Γ S) Q := by
  have hs : sizeLine = 16777216 := sizeLine_eq
  refine W.op (W.lstF (okR.of ha ⟨by omega, gdraw g hi (fun j S' hj g' => ?_) h0 (by omega)⟩))
  have hj : j < vs.length := by omega
  refine ⟨vs[j], S', ?_, k _ (List.getElem_mem hj) S' g'⟩
  show (atI vs (j : Int)).map _ = _
  rw [atI_nat, List.getElem?_eq_getElem hj]
  rfl
end
end Law
/-! G3: numbers, lines, values. -/
namespace Law
open PySem PySem.Spec PyProof.Rows L2 Pv
section
variable {ns : List Int} {n r : Nat} {S0 S : Sto} {ps : List PV} {Γ : Gam} {i : Nat} {Q : PV → Sto → Prop} {P : RS → Prop} {t : EF} {as : AF}
theorem gnumber (g : GS ns n r S0 S ps) (k : ∀ (x : Int) S', -1000000000000000000000000000000 ≤ x → x ≤ 1000000000000000000000000000000 → GS ns n r S0 S' ps → Q (.int x) S') : okR (f_law_number [.ref n] S) Q := by
  unfold f_law_number
  refine Pv.W.run rfl (Pv.W.seq (Pv.W.set (gdraw g rfl fun j S1 hj g1 => Pv.W.go (Pv.W.seq (Pv.W.iteEq (x := j) (y := 0) rfl (fun _ => Pv.W.ret ?_) fun _ => Pv.W.next (Pv.W.go ?_))))))
  · refine gpick (vs := [.int 0, .int 1, .int (-1), .int 1000000000000000000000000000000, .int (-1000000000000000000000000000000), .int 999999999999999999999999999999]) g1 ?_ rfl rfl (fun v hv S' g' => ?_)
    · simp [CPow]
    · simp only [List.mem_cons, List.not_mem_nil, or_false] at hv
      rcases hv with rfl | rfl | rfl | rfl | rfl | rfl <;> exact k _ _ (by decide) (by decide) g'
  · refine Pv.W.seq (Pv.W.iteEq (x := j) (y := 1) rfl (fun _ => Pv.W.ret ?_) fun _ => Pv.W.next (Pv.W.go ?_))
    · refine Pv.W.op (Pv.W.callW (Pv.W.cons (Pv.W.var rfl (Pv.W.cons ?_))))
      refine okR.of (v := .int 1000000000) (S := S1) (by simp [CPow]) ?_
      refine Pv.W.nil (gdrawR (m := 1000000000) g1 (by omega) (by omega) fun x S2 hx g2 => ?_)
      refine okR.of (v := .int 500000000) (S := S2) (by simp [CPow, CMul]) ?_
      exact ⟨.int (x - 500000000), S2, rfl, k _ _ (by omega) (by omega) g2⟩
    · exact Pv.W.ret (Pv.W.op (gdraw g1 rfl fun x S2 hx g2 => Pv.W.con ⟨.int (x - 2), S2, rfl, k _ _ (by omega) (by omega) g2⟩))
theorem gline (g : GS ns n r S0 S ps) (k : ∀ (l : Nat) S', l ≤ 1000000 → GS ns n r S0 S' ps → Q (.int l) S') : okR (f_law_line [.ref n] S) Q := by
  unfold f_law_line
  refine Pv.W.run rfl (Pv.W.ret (gpick (vs := [.int 0, .int 1, .int 1, .int 2, .int 3, .int 7, .int 1000000]) g ?_ rfl rfl (fun v hv S' g' => ?_)))
  · simp [CPow]
  · simp only [List.mem_cons, List.not_mem_nil, or_false] at hv
    rcases hv with rfl | rfl | rfl | rfl | rfl | rfl | rfl
    · exact k 0 _ (by decide) g'
    · exact k 1 _ (by decide) g'
    · exact k 1 _ (by decide) g'
    · exact k 2 _ (by decide) g'
    · exact k 3 _ (by decide) g'
    · exact k 7 _ (by decide) g'
    · exact k 1000000 _ (by decide) g'
/-- a row as it is written: [instruction, line] -/
theorem growW {te tl : EF} (hl : okR (te Γ S) fun v S1 => okR (tl Γ S1) fun w S2 => Q (.con .own .lst [v, w]) S2) : okR (eLst false (aCons te (aCons tl aNil)) Γ S) Q :=
  Pv.W.lstF (Pv.W.cons (hl.mono fun v S1 h => Pv.W.cons (h.mono fun w S2 h => Pv.W.nil ⟨by have : sizeLine = 16777216 := sizeLine_eq; simp; omega, h⟩)))
theorem gtup1 {a : EF} (h : okR (a Γ S) fun v S1 => Q (.con .own .tup [v]) S1) : okR (eTup (aCons a aNil) Γ S) Q :=
  Pv.W.tup (Pv.W.cons (h.mono fun v S1 h => Pv.W.nil ⟨by have : sizeLine = 16777216 := sizeLine_eq; simp; omega, h⟩))
theorem gtup2 {a b : EF} (h : okR (a Γ S) fun v S1 => okR (b Γ S1) fun w S2 => Q (.con .own .tup [v, w]) S2) : okR (eTup (aCons a (aCons b aNil)) Γ S) Q :=
  Pv.W.tup (Pv.W.cons (h.mono fun v S1 h => Pv.W.cons (h.mono fun w S2 h => Pv.W.nil ⟨by have : sizeLine = 16777216 := sizeLine_eq; simp; omega, h⟩)))
/-- a written instruction of one word, at a line that stands in a slot -/
theorem gop (o : Opc) {s : Str} {l : Nat} {j : Nat} (e : s = o.name) (hl : Γ[j]? = some (some (.int (l : Int)))) (q : Q (Rw.pv ⟨.op o, l⟩) S) : okR (eLst false (aCons (eTup (aCons (eC (.str s)) aNil)) (aCons (eV j) aNil)) Γ S) Q := by
  subst e
  exact growW (gtup1 (Pv.W.con (Pv.W.var hl q)))
end
end Law
/-! G4: values, plain parts. -/
namespace Law
open PySem PySem.Spec PyProof.Rows L2 Pv
section
variable {ns : List Int} {n r : Nat} {S0 S : Sto} {ps : List PV} {Γ : Gam} {i : Nat} {Q : PV → Sto → Prop} {P : RS → Prop} {t u : SF} {as : AF}
theorem gif (g : GS ns n r S0 S ps) {m y : Int} (hi : Γ[i]? = some (some (.ref n))) (h1 : ∀ S', GS ns n r S0 S' ps → rsP (t Γ S') P) (h2 : ∀ S', GS ns n r S0 S' ps → rsP (u Γ S') P) (hm : 0 < m := by decide) (hm2 : m < 1073741824 := by decide) :
    rsP (sIf (bE (eOp eqF (eCallW f_law_draw (aCons (eV i) (aCons (eC (.int m)) aNil))) (eC (.int y)))) t u Γ S) P :=
  Pv.W.ite (Pv.W.bE (Pv.W.eqI (gdraw g hi (fun j S' _ g' => Pv.W.con ⟨j, y, rfl, rfl, _, rfl, fun _ => h1 S' g', fun _ => h2 S' g'⟩) hm hm2)))
theorem gpickS (ws : List Str) {m : Int} (g : GS ns n r S0 S ps) (ha : as Γ S = .ok (ws.map PV.str) S) (hi : Γ[i]? = some (some (.ref n))) (hl : m = ws.length) (k : ∀ w ∈ ws, ∀ S', GS ns n r S0 S' ps → Q (.str w) S') (h0 : 0 < m := by decide) (h1 : m < 100 := by decide) :
    okR (eOp ixF (eLst false as) (eCallW f_law_draw (aCons (eV i) (aCons (eC (.int m)) aNil))) Γ S) Q :=
  gpick g ha hi (by rw [List.length_map]; exact hl) (fun v hv S' g' => by
    obtain ⟨w, hw, rfl⟩ := List.mem_map.mp hv
    exact k w hw S' g') h0 h1
theorem gpickO (os : List Opc) {m : Int} (g : GS ns n r S0 S ps) (ha : as Γ S = .ok (os.map fun o => .str o.name) S) (hi : Γ[i]? = some (some (.ref n))) (hl : m = os.length) (k : ∀ o ∈ os, ∀ S', GS ns n r S0 S' ps → Q (.str o.name) S') (h0 : 0 < m := by decide) (h1 : m < 100 := by decide) :
    okR (eOp ixF (eLst false as) (eCallW f_law_draw (aCons (eV i) (aCons (eC (.int m)) aNil))) Γ S) Q :=
  gpick g ha hi (by rw [List.length_map]; exact hl) (fun v hv S' g' => by
    obtain ⟨w, hw, rfl⟩ := List.mem_map.mp hv
    exact k w hw S' g') h0 h1
theorem gpickL (ls : List Nat) {m : Int} (g : GS ns n r S0 S ps) (ha : as Γ S = .ok (ls.map fun l => .int (l : Nat)) S) (hi : Γ[i]? = some (some (.ref n))) (hl : m = ls.length) (k : ∀ l ∈ ls, ∀ S', GS ns n r S0 S' ps → Q (.int (l : Nat)) S') (h0 : 0 < m := by decide) (h1 : m < 100 := by decide) :
    okR (eOp ixF (eLst false as) (eCallW f_law_draw (aCons (eV i) (aCons (eC (.int m)) aNil))) Γ S) Q :=
  gpick g ha hi (by rw [List.length_map]; exact hl) (fun v hv S' g' => by
    obtain ⟨w, hw, rfl⟩ := List.mem_map.mp hv
    exact k w hw S' g') h0 h1
theorem two_op {o : Opc} (h : o ∈ [Opc.add, .sub, .less, .div]) : (Itr.op o).rem = 2 ∧ (Itr.op o).push = 1 ∧ (Itr.op o).last = false := by
  simp only [List.mem_cons, List.not_mem_nil, or_false] at h
  rcases h with rfl | rfl | rfl | rfl <;> exact ⟨rfl, rfl, rfl⟩
theorem words_ok {l : List Str} (hl : (l.all fun w => decide (WdOk w)) = true) {w : Str} (h : w ∈ l) : WdOk w := by
  have := List.all_eq_true.mp hl w h
  exact of_decide_eq_true this
theorem abc {w : Str} (h : w ∈ (["a", "b", "c"] : List Str)) : WdOk w := words_ok (by decide +kernel) h
/-- a value: rows that put one number on the stack -/
structure Val (rows : List Rw) (m : Nat) : Prop where
  len : rows.length ≤ m
  pos : 0 < rows.length
  blk : ∀ a b, Blk b a b (b + 1) rows []
theorem Val.app {rows rs : List Rw} {m k : Nat} (h : Val rows m) (hl : rs.length ≤ k) (hb : ∀ a b, Blk b a (b + 1) (b + 1) rs []) : Val (rows ++ rs) (m + k) := by
  refine ⟨?_, ?_, fun a b => Blk.app (h.blk a b) (hb _ b)⟩
  · rw [List.length_append]; have := h.len; omega
  · rw [List.length_append]; have := h.pos; omega
theorem Val.c {x : Int} {l : Nat} (h : (Rw.mk (.c x) l).good) : Val [⟨.c x, l⟩] 3 := ⟨by simp, by simp, fun a b => Blk.one h (Nat.zero_le _) rfl rfl rfl (Nat.le_refl _)⟩
theorem Val.ld {w : Str} {l : Nat} (h : (Rw.mk (.ld w) l).good) (ha : w ∈ (["a", "b", "c"] : List Str)) : Val [⟨.ld w, l⟩] 3 := ⟨by simp, by simp, fun a b => Blk.one h (Nat.zero_le _) rfl rfl rfl (Nat.le_refl _) ha⟩
theorem Val.op2 {x y : Int} {o : Opc} {l l' l'' : Nat} (h1 : (Rw.mk (.c x) l).good) (h2 : (Rw.mk (.c y) l').good) (ho : o ∈ [Opc.add, .sub, .less, .div]) (h3 : l'' ≤ 1000000) : Val [⟨.c x, l⟩, ⟨.c y, l'⟩, ⟨.op o, l''⟩] 3 := by
  obtain ⟨o1, o2, o3⟩ := two_op ho
  refine ⟨by simp, by simp, fun a b => ?_⟩
  have b1 : Blk b a b (b + 1) [⟨.c x, l⟩] [] := Blk.one h1 (Nat.zero_le _) rfl rfl rfl (by omega)
  have b2 : Blk b (a + 1) (b + 1) (b + 2) [⟨.c y, l'⟩] [] := Blk.one h2 (Nat.zero_le _) rfl rfl rfl (by omega)
  have b3 : Blk b (a + 1 + 1) (b + 2) (b + 1) [⟨.op o, l''⟩] [] := Blk.one ⟨trivial, h3⟩ (by show (Itr.op o).rem ≤ _; omega) (by show _ = _ - (Itr.op o).rem + (Itr.op o).push; omega) o3 rfl (by omega)
  exact (b1.app b2).app b3
theorem blk_ldop {w : Str} {o : Opc} {l : Nat} (hw : WdOk w) (ha : w ∈ (["a", "b", "c"] : List Str)) (ho : o ∈ [Opc.add, .sub, .less, .div]) (h3 : l ≤ 1000000) (a b : Nat) : Blk b a (b + 1) (b + 1) [⟨.ld w, l⟩, ⟨.op o, l⟩] [] := by
  obtain ⟨o1, o2, o3⟩ := two_op ho
  have b2 : Blk b a (b + 1) (b + 2) [⟨.ld w, l⟩] [] := Blk.one ⟨hw, h3⟩ (Nat.zero_le _) rfl rfl rfl (by omega) ha
  have b3 : Blk b (a + 1) (b + 2) (b + 1) [⟨.op o, l⟩] [] := Blk.one ⟨trivial, h3⟩ (by show (Itr.op o).rem ≤ _; omega) (by show _ = _ - (Itr.op o).rem + (Itr.op o).push; omega) o3 rfl (by omega)
  exact b2.app b3
theorem blk_not {l : Nat} (h3 : l ≤ 1000000) (a b : Nat) : Blk b a (b + 1) (b + 1) [⟨.op .not, l⟩] [] := Blk.one ⟨trivial, h3⟩ (by show 1 ≤ _; omega) (by show _ = b + 1 - 1 + 1; omega) rfl rfl (by omega)
/-- the two ends of a value -/
theorem gvalue_end {l : Nat} {x y : Option PV} (hl : l ≤ 1000000) (hz : ps.length < 90000) {rows : List Rw} (hv : Val rows 3) (g : GS ns n r S0 S (ps ++ rows.map Rw.pv))
    (k : ∀ rows S', GS ns n r S0 S' (ps ++ rows.map Rw.pv) → Val rows 6 → Q .non S') :
    rsP (r3_law_value [some (.ref n), some (.ref r), some (.int (l : Nat)), x, y] S) fun r => match r with
    | .nx _ S' => Q .non S'
    | .rt v S' => Q v S'
    | _ => False := by
  have fin : ∀ (rows : List Rw) S, Val rows 5 → GS ns n r S0 S (ps ++ rows.map Rw.pv) → rsP (r2_law_value [some (.ref n), some (.ref r), some (.int (l : Nat)), x, y] S) fun r => match r with
    | .nx _ S' => Q .non S'
    | .rt v S' => Q v S'
    | _ => False := fun rows S hv g => by
    have hz' : (ps ++ rows.map Rw.pv).length < 100000 := by rw [List.length_append, List.length_map]; have := hv.len; omega
    refine gif g rfl (fun S1 g1 => gapp g1 rfl hz' (gop .not rfl rfl ⟨g1, fun S2 g2 => ?_⟩)) (fun S1 g1 => Pv.W.next ?_)
    · exact k (rows ++ [⟨.op .not, l⟩]) S2 (by simpa using g2) (hv.app (k := 1) (Nat.le_refl _) fun a b => blk_not hl a b)
    · exact k rows S1 g1 ⟨Nat.le_succ_of_le hv.len, hv.pos, hv.blk⟩
  have hz' : (ps ++ rows.map Rw.pv).length < 99999 := by rw [List.length_append, List.length_map]; have := hv.len; omega
  refine Pv.W.seq (gif g rfl (fun S1 g1 => ?_) fun S1 g1 => Pv.W.next (Pv.W.go (fin rows S1 ⟨Nat.le_trans hv.len (by decide), hv.pos, hv.blk⟩ g1)))
  refine Pv.W.seq (gapp g1 rfl (by omega) (growW (gtup2 (Pv.W.con (gpickS ["a", "b", "c"] g1 rfl rfl rfl fun w hw S2 g2 => Pv.W.var rfl ⟨g2, fun S3 g3 => Pv.W.go ?_⟩)))))
  refine gapp g3 rfl (by rw [List.length_append]; simp at hz' ⊢; omega) (growW (gtup1 (gpickO [.add, .sub, .less, .div] g3 rfl rfl rfl fun o ho S4 g4 => Pv.W.var rfl ⟨g4, fun S5 g5 => Pv.W.go ?_⟩)))
  exact fin (rows ++ [⟨.ld w, l⟩, ⟨.op o, l⟩]) S5 (hv.app (k := 2) (Nat.le_refl _) fun a b => blk_ldop (abc hw) hw ho hl a b) (by simpa [Rw.pv, Itr.pv] using g5)
theorem gvalue (g : GS ns n r S0 S ps) {l : Nat} (hl : l ≤ 1000000) (hz : ps.length < 90000) (k : ∀ rows S', GS ns n r S0 S' (ps ++ rows.map Rw.pv) → Val rows 6 → Q .non S') : okR (f_law_value [.ref n, .ref r, .int (l : Nat)] S) Q := by
  unfold f_law_value
  refine Pv.W.run rfl (Pv.W.seq (Pv.W.set (gdraw g rfl fun j S1 hj g1 => Pv.W.go (Pv.W.seq (Pv.W.iteLe (x := j) (y := 3) rfl (fun _ => ?_) fun _ => Pv.W.iteLe (x := j) (y := 5) rfl (fun _ => ?_) fun _ => ?_)))))
  · refine gapp g1 rfl (by omega) (growW (gtup2 (Pv.W.con (Pv.W.callW (Pv.W.cons (Pv.W.var rfl (Pv.W.nil (gnumber g1 fun x S2 x0 x1 g2 => Pv.W.var rfl ⟨g2, fun S3 g3 => Pv.W.go ?_⟩))))))))
    exact gvalue_end hl hz (Val.c (x := x) (l := l) ⟨⟨x0, x1⟩, hl⟩) g3 k
  · refine gapp g1 rfl (by omega) (growW (gtup2 (Pv.W.con (gpickS ["a", "b", "c"] g1 rfl rfl rfl fun w hw S2 g2 => Pv.W.var rfl ⟨g2, fun S3 g3 => Pv.W.go ?_⟩))))
    exact gvalue_end hl hz (Val.ld (w := w) (l := l) ⟨abc hw, hl⟩ hw) g3 k
  · refine Pv.W.seq (gapp g1 rfl (by omega) (growW (gtup2 (Pv.W.con (Pv.W.callW (Pv.W.cons (Pv.W.var rfl (Pv.W.nil (gnumber g1 fun x S2 x0 x1 g2 => Pv.W.var rfl ⟨g2, fun S3 g3 => Pv.W.go ?_⟩)))))))))
    refine Pv.W.seq (gapp g3 rfl (by simp; omega) (growW (gtup2 (Pv.W.con (gdraw g3 rfl fun y S4 hy g4 => gpickL [l, l, 0] g4 rfl rfl rfl fun l' hl' S5 g5 => ⟨g5, fun S6 g6 => Pv.W.go ?_⟩)))))
    refine Pv.W.seq (Pv.W.set (gpickO [.add, .sub, .less, .div] g6 rfl rfl rfl fun o ho S7 g7 => Pv.W.go ?_))
    refine gapp g7 rfl (by simp; omega) (growW (gtup1 (Pv.W.var rfl (gpickL [l, l, 0, 2] g7 rfl rfl rfl fun l'' hl'' S8 g8 => ⟨g8, fun S9 g9 => Pv.W.go ?_⟩))))
    have e1 : l' ≤ 1000000 := by simp at hl'; omega
    have e2 : l'' ≤ 1000000 := by simp at hl''; omega
    exact gvalue_end hl hz (Val.op2 (x := x) (y := y) (o := o) (l := l) (l' := l') (l'' := l'') ⟨⟨x0, x1⟩, hl⟩ ⟨⟨by omega, by omega⟩, e1⟩ ho e2) (by simpa [Rw.pv, Itr.pv] using g9) k
end
end Law
/-! G5: plain parts. -/
namespace Law
open PySem PySem.Spec PyProof.Rows L2 Pv
section
variable {ns : List Int} {n r : Nat} {S0 S : Sto} {ps : List PV} {Γ : Gam} {i : Nat} {Q : PV → Sto → Prop} {P : RS → Prop} {t u : SF} {as : AF}
/-- the statement law_value(draws, rows, line) -/
theorem svalue (g : GS ns n r S0 S ps) {l j : Nat} (hl : l ≤ 1000000) (hz : ps.length < 90000) (h0 : Γ[0]? = some (some (.ref n))) (h1 : Γ[1]? = some (some (.ref r))) (h2 : Γ[j]? = some (some (.int (l : Nat))))
    (k : ∀ rows S', GS ns n r S0 S' (ps ++ rows.map Rw.pv) → Val rows 6 → rsP (.nx Γ S') P) : rsP (sExpr (eCallW f_law_value (aCons (eV 0) (aCons (eV 1) (aCons (eV j) aNil)))) Γ S) P :=
  Pv.W.expr (Pv.W.callW (Pv.W.cons (Pv.W.var h0 (Pv.W.cons (Pv.W.var h1 (Pv.W.cons (Pv.W.var h2 (Pv.W.nil (gvalue g hl hz k)))))))))
theorem glen (g : GS ns n r S0 S ps) (h1 : Γ[i]? = some (some (.ref r))) (q : Q (.int (ps.length : Nat)) S) : okR (eCall lenF (aCons (eV i) aNil) Γ S) Q :=
  Pv.W.call (Pv.W.cons (Pv.W.var h1 (Pv.W.nil ⟨.int (ps.length : Nat), S, lenF_ref g.rw_, q⟩)))
theorem Val.end {rows rs : List Rw} {a : Nat} (h : Val rows 6) (hb : ∀ a b, Blk b a (b + 1) b rs []) (b : Nat) : Blk b a b b (rows ++ rs) [] := Blk.app (h.blk a b) (hb _ b)
theorem blk_pop1 {o : Opc} {l : Nat} (ho : o = .pop ∨ o = .print) (hl : l ≤ 1000000) (a b : Nat) : Blk b a (b + 1) b [⟨.op o, l⟩] [] := by
  rcases ho with rfl | rfl <;> exact Blk.one ⟨trivial, hl⟩ (by show 1 ≤ _; omega) (by show _ = b + 1 - 1 + 0; omega) rfl rfl (by omega)
theorem blk_sto {w : Str} {l : Nat} (hw : WdOk w) (ha : w ∈ (["a", "b", "c"] : List Str)) (hl : l ≤ 1000000) (a b : Nat) : Blk b a (b + 1) b [⟨.sto w, l⟩] [] := Blk.one ⟨hw, hl⟩ (by show 1 ≤ _; omega) (by show _ = b + 1 - 1 + 0; omega) rfl rfl (by omega) ha
theorem blk_skip {l : Nat} (hl : l ≤ 1000000) (a b : Nat) : Blk b a b b [⟨.op .skip, l⟩] [] := Blk.one ⟨trivial, hl⟩ (Nat.zero_le _) rfl rfl rfl (Nat.le_refl _)
theorem blk_copy {l : Nat} (hl : l ≤ 1000000) (a b : Nat) : Blk b a (b + 1) b [⟨.op .copy, l⟩, ⟨.op .pop, l⟩, ⟨.op .print, l⟩] [] := by
  have b1 : Blk b a (b + 1) (b + 2) [⟨.op .copy, l⟩] [] := Blk.one ⟨trivial, hl⟩ (by show 1 ≤ _; omega) (by show _ = b + 1 - 1 + 2; omega) rfl rfl (by omega)
  exact (b1.app ((blk_pop1 (o := .pop) (Or.inl rfl) hl (a + 1) (b + 1)).floor (Nat.le_succ b))).app (blk_pop1 (o := .print) (Or.inr rfl) hl _ b)
theorem gplain (g : GS ns n r S0 S ps) (hz : ps.length < 80000) (k : ∀ rows S', GS ns n r S0 S' (ps ++ rows.map Rw.pv) → rows.length ≤ 9 → (∀ b, Blk b ps.length b b rows []) → Q .non S') : okR (f_law_plain [.ref n, .ref r] S) Q := by
  unfold f_law_plain
  refine Pv.W.run rfl (Pv.W.seq (Pv.W.set (Pv.W.callW (Pv.W.cons (Pv.W.var rfl (Pv.W.nil (gline g fun l S1 hl g1 => Pv.W.go (Pv.W.seq (Pv.W.set (gdraw g1 rfl fun j S2 hj g2 => Pv.W.go ?_))))))))))
  refine Pv.W.iteLe (x := j) (y := 1) rfl (fun _ => ?_) fun _ => Pv.W.iteEq (x := j) (y := 2) rfl (fun _ => ?_) fun _ => Pv.W.iteEq (x := j) (y := 3) rfl (fun _ => ?_) fun _ => Pv.W.iteEq (x := j) (y := 4) rfl (fun _ => ?_) fun _ =>
    Pv.W.iteEq (x := j) (y := 5) rfl (fun _ => ?_) fun _ => Pv.W.iteEq (x := j) (y := 6) rfl (fun _ => ?_) fun _ => ?_
  · refine Pv.W.seq (svalue g2 hl (by omega) rfl rfl rfl fun rows S3 g3 hv => Pv.W.go ?_)
    have hz3 : (ps ++ rows.map Rw.pv).length < 90000 := by rw [List.length_append, List.length_map]; have := hv.len; omega
    refine gapp g3 rfl (by omega) (gop .print rfl rfl ⟨g3, fun S4 g4 => ?_⟩)
    exact k (rows ++ [⟨.op .print, l⟩]) S4 (by simpa using g4) (by have := hv.len; simp; omega) (hv.end (blk_pop1 (Or.inr rfl) hl))
  · refine Pv.W.seq (svalue g2 hl (by omega) rfl rfl rfl fun rows S3 g3 hv => Pv.W.go ?_)
    have hz3 : (ps ++ rows.map Rw.pv).length < 90000 := by rw [List.length_append, List.length_map]; have := hv.len; omega
    refine gapp g3 rfl (by omega) (growW (gtup2 (Pv.W.con (gpickS ["a", "b", "c"] g3 rfl rfl rfl fun w hw S4 g4 => Pv.W.var rfl ⟨g4, fun S5 g5 => ?_⟩))))
    exact k (rows ++ [⟨.sto w, l⟩]) S5 (by simpa [Rw.pv, Itr.pv] using g5) (by have := hv.len; simp; omega) (hv.end (blk_sto (abc hw) hw hl))
  · refine gapp g2 rfl (by omega) (gop .skip rfl rfl ⟨g2, fun S4 g4 => ?_⟩)
    exact k [⟨.op .skip, l⟩] S4 (by simpa using g4) (by simp) (fun b => blk_skip hl _ b)
  · refine Pv.W.seq (svalue g2 hl (by omega) rfl rfl rfl fun rows S3 g3 hv => Pv.W.go ?_)
    have hz3 : (ps ++ rows.map Rw.pv).length < 90000 := by rw [List.length_append, List.length_map]; have := hv.len; omega
    refine gapp g3 rfl (by omega) (growW (gtup1 (Pv.W.con (gpickL [l, 0] g3 rfl rfl rfl fun l' hl' S4 g4 => ⟨g4, fun S5 g5 => ?_⟩))))
    have e1 : l' ≤ 1000000 := by simp at hl'; omega
    exact k (rows ++ [⟨.op .pop, l'⟩]) S5 (by simpa [Rw.pv, Itr.pv, Opc.name] using g5) (by have := hv.len; simp; omega) (hv.end (blk_pop1 (Or.inl rfl) e1))
  · refine Pv.W.seq (svalue g2 hl (by omega) rfl rfl rfl fun rows S3 g3 hv => Pv.W.go ?_)
    have hz3 : (ps ++ rows.map Rw.pv).length < 90000 := by rw [List.length_append, List.length_map]; have := hv.len; omega
    refine Pv.W.seq (gapp g3 rfl (by omega) (gop .copy rfl rfl ⟨g3, fun S4 g4 => Pv.W.go ?_⟩))
    refine Pv.W.seq (gapp g4 rfl (by rw [List.length_append]; simp only [List.length_singleton]; omega) (gop .pop rfl rfl ⟨g4, fun S5 g5 => Pv.W.go ?_⟩))
    refine gapp g5 rfl (by rw [List.length_append, List.length_append]; simp only [List.length_singleton]; omega) (gop .print rfl rfl ⟨g5, fun S6 g6 => ?_⟩)
    exact k (rows ++ [⟨.op .copy, l⟩, ⟨.op .pop, l⟩, ⟨.op .print, l⟩]) S6 (by simpa using g6) (by have := hv.len; simp; omega) (hv.end (blk_copy hl))
  · refine Pv.W.seq (gapp g2 rfl (by omega) (gop .skip rfl rfl ⟨g2, fun S4 g4 => Pv.W.go ?_⟩))
    refine gapp g4 rfl (by rw [List.length_append]; simp only [List.length_singleton]; omega) (growW (gtup1 (Pv.W.con (gpickL [0, l] g4 rfl rfl rfl fun l' hl' S5 g5 => ⟨g5, fun S6 g6 => ?_⟩))))
    have e1 : l' ≤ 1000000 := by simp at hl'; omega
    exact k [⟨.op .skip, l⟩, ⟨.op .skip, l'⟩] S6 (by simpa [Rw.pv, Itr.pv, Opc.name] using g6) (by simp) (fun b => (blk_skip hl _ b).app (blk_skip e1 _ b))
  · have jmp : ∀ S, GS ns n r S0 S ps → rsP (sExpr (eM "list" appendF (eV 1) (aCons (eLst false (aCons (eTup (aCons (eC (.str "jump")) (aCons (eOp (addF false) (eCall lenF (aCons (eV 1) aNil)) (eC (.int 1))) aNil))) (aCons (eOp ixF (eLst false (aCons (eC (.int 0)) (aCons (eV 2) aNil))) (eCallW f_law_draw (aCons (eV 0) (aCons (eC (.int 2)) aNil)))) aNil))) aNil)) [some (.ref n), some (.ref r), some (.int (l : Nat)), some (.int (j : Nat))] S) fun r => match r with
        | .nx _ S' => Q .non S'
        | .rt v S' => Q v S'
        | _ => False := fun S g2 => by
      refine gapp g2 rfl (by omega) (growW (gtup2 (Pv.W.con (Pv.W.op (glen g2 rfl (Pv.W.con ⟨.int (ps.length + 1 : Nat), S, rfl, gpickL [0, l] g2 rfl rfl rfl fun l' hl' S5 g5 => ⟨g5, fun S6 g6 => ?_⟩⟩))))))
      have e1 : l' ≤ 1000000 := by simp at hl'; omega
      exact k [⟨.jp (ps.length + 1), l'⟩] S6 g6 (by simp) (fun b => Blk.jnext e1)
    refine Pv.W.ite (Pv.W.and (Pv.W.bE (Pv.W.eqI (Pv.W.var rfl (Pv.W.con ⟨j, 7, rfl, rfl, _, rfl, fun _ => ?_, fun _ => ⟨fun h => (by cases h), fun _ => jmp S2 g2⟩⟩)))))
    refine Pv.W.bE (Pv.W.eqI (gdraw g2 rfl fun x S3 _ g3 => Pv.W.con ⟨x, 0, rfl, rfl, _, rfl, fun _ => ?_, fun _ => jmp S3 g3⟩))
    refine gapp g3 rfl (by omega) (growW (gtup2 (Pv.W.con (gpickS ["oops", "zero", "unbound"] g3 rfl rfl rfl fun w hw S4 g4 => Pv.W.var rfl ⟨g4, fun S5 g5 => ?_⟩))))
    exact k [⟨.fl w, l⟩] S5 (by simpa [Rw.pv, Itr.pv] using g5) (by simp) (fun b => Blk.fail ⟨words_ok (by decide +kernel) hw, hl⟩)
end
end Law
/-! G6: the program maker's state: rows that may be changed, handlers. -/
namespace Law
open PySem PySem.Spec PyProof.Rows L2 Pv
/-- the objects ps are the rows rs, in S; changing ones stand from lo on -/
structure RWs (lo : Nat) (S : Sto) (ps : List PV) (rs : List Rw) : Prop where
  len : ps.length = rs.length
  at_ : ∀ (i : Nat) (p : PV) (r : Rw), ps[i]? = some p → rs[i]? = some r → p = r.pv ∨ ∃ c : Nat, p = .ref c ∧ lo ≤ c ∧ S[c]? = some (some (.lst, [r.i.pv, .int r.l]))
  inj : ∀ (i j c : Nat), ps[i]? = some (.ref c) → ps[j]? = some (.ref c) → i = j
theorem RWs.nil {lo : Nat} {S : Sto} : RWs lo S [] [] := ⟨rfl, fun i p r h => by simp at h, fun i j c h => by simp at h⟩
theorem RWs.pure {lo : Nat} {S : Sto} {rs : List Rw} : RWs lo S (rs.map Rw.pv) rs := by
  refine ⟨List.length_map _, fun i p r h h' => ?_, fun i j c h => ?_⟩
  · rw [List.getElem?_map, h'] at h
    exact Or.inl (Option.some.inj h).symm
  · rw [List.getElem?_map] at h
    obtain ⟨x, _, e⟩ := Option.map_eq_some_iff.mp h
    cases e
theorem RWs.one {lo c : Nat} {S : Sto} {r : Rw} (h : S[c]? = some (some (.lst, [r.i.pv, .int r.l]))) (hl : lo ≤ c) : RWs lo S [.ref c] [r] := by
  refine ⟨rfl, fun i p x e e' => ?_, fun i j d e e' => ?_⟩
  · cases i with
    | zero => cases e; cases e'; exact Or.inr ⟨c, rfl, hl, h⟩
    | succ i => simp at e
  · cases i with
    | zero => cases j with
      | zero => rfl
      | succ j => simp at e'
    | succ i => simp at e
theorem RWs.ref_lt {lo c i : Nat} {S : Sto} {ps : List PV} {rs : List Rw} (h : RWs lo S ps rs) (e : ps[i]? = some (.ref c)) : lo ≤ c ∧ c < S.length := by
  have hi := (List.getElem?_eq_some_iff.mp e).1
  obtain ⟨x, hx⟩ : ∃ x, rs[i]? = some x := ⟨rs[i]'(by rw [← h.len]; exact hi), List.getElem?_eq_getElem _⟩
  rcases h.at_ i _ x e hx with q | ⟨d, q, q1, q2⟩
  · cases q
  · cases q
    exact ⟨q1, (List.getElem?_eq_some_iff.mp q2).1⟩
/-- the store goes on, the cells stay -/
theorem RWs.keep {lo : Nat} {S S' : Sto} {ps : List PV} {rs : List Rw} (h : RWs lo S ps rs) (fr : ∀ c : Nat, lo ≤ c → c < S.length → S'[c]? = S[c]?) : RWs lo S' ps rs :=
  ⟨h.len, fun i p r e e' => (h.at_ i p r e e').imp id fun ⟨c, q, q1, q2⟩ => ⟨c, q, q1, by rw [fr c q1 (List.getElem?_eq_some_iff.mp q2).1]; exact q2⟩, h.inj⟩
theorem RWs.app {lo m : Nat} {S' : Sto} {ps ps' : List PV} {rs rs' : List Rw} (h : RWs lo S' ps rs) (hm : ∀ (i c : Nat), ps[i]? = some (.ref c) → c < m) (h' : RWs m S' ps' rs') (hl : lo ≤ m) : RWs lo S' (ps ++ ps') (rs ++ rs') := by
  refine ⟨by rw [List.length_append, List.length_append, h.len, h'.len], fun i p r e e' => ?_, fun i j c e e' => ?_⟩
  · by_cases z : i < ps.length
    · rw [List.getElem?_append_left z] at e
      rw [List.getElem?_append_left (by rw [← h.len]; exact z)] at e'
      exact h.at_ i p r e e'
    · rw [List.getElem?_append_right (by omega)] at e
      rw [List.getElem?_append_right (by rw [← h.len]; omega), ← h.len] at e'
      exact (h'.at_ _ p r e e').imp id fun ⟨c, q, q1, q2⟩ => ⟨c, q, by omega, q2⟩
  · by_cases z : i < ps.length
    · rw [List.getElem?_append_left z] at e
      by_cases y : j < ps.length
      · rw [List.getElem?_append_left y] at e'
        exact h.inj i j c e e'
      · rw [List.getElem?_append_right (by omega)] at e'
        have := hm i c e
        have := (h'.ref_lt e').1
        omega
    · rw [List.getElem?_append_right (by omega)] at e
      by_cases y : j < ps.length
      · rw [List.getElem?_append_left y] at e'
        have := hm j c e'
        have := (h'.ref_lt e).1
        omega
      · rw [List.getElem?_append_right (by omega)] at e'
        have := h'.inj _ _ c e e'
        omega
/-- one cell is changed -/
theorem RWs.patch {lo c : Nat} {S : Sto} {ps ps' : List PV} {rs rs' : List Rw} {x : Rw} (y : Rw) (h : RWs lo S (ps ++ .ref c :: ps') (rs ++ x :: rs')) (hl : ps.length = rs.length) : RWs lo (S.set c (some (.lst, [y.i.pv, .int y.l]))) (ps ++ .ref c :: ps') (rs ++ y :: rs') := by
  have hc : (ps ++ .ref c :: ps')[ps.length]? = some (.ref c) := by simp
  have lt := (h.ref_lt hc).2
  refine ⟨by rw [h.len]; simp, fun i p r e e' => ?_, h.inj⟩
  by_cases z : i = ps.length
  · subst z
    rw [hc] at e
    cases e
    have : (rs ++ y :: rs')[ps.length]? = some y := by rw [hl]; simp
    rw [this] at e'
    cases e'
    exact Or.inr ⟨c, rfl, (h.ref_lt hc).1, List.getElem?_set_self lt⟩
  · have : (rs ++ y :: rs')[i]? = (rs ++ x :: rs')[i]? := by
      by_cases w : i < rs.length
      · rw [List.getElem?_append_left w, List.getElem?_append_left w]
      · rw [List.getElem?_append_right (by omega), List.getElem?_append_right (by omega)]
        obtain ⟨j, hj⟩ : ∃ j, i - rs.length = j + 1 := ⟨i - rs.length - 1, by omega⟩
        rw [hj] <;> rfl
    rw [this] at e'
    rcases h.at_ i p r e e' with q | ⟨d, q, q1, q2⟩
    · exact Or.inl q
    · refine Or.inr ⟨d, q, q1, ?_⟩
      rw [List.getElem?_set_ne]
      · exact q2
      · intro e2
        subst e2
        subst q
        exact z (h.inj i ps.length c e hc)
structure FC (n r h : Nat) (S0 : Sto) : Prop where
  nr : n ≠ r
  nh : n ≠ h
  rh : r ≠ h
  n0 : n < S0.length
  r0 : r < S0.length
  h0 : h < S0.length
/-- since S0, ps0, hs0: new rows, new handlers -/
structure FS (ns : List Int) (n r h : Nat) (S0 : Sto) (ps0 hs0 : List PV) (S : Sto) (new : List PV) (rows : List Rw) (hds : List Hnd) : Prop where
  c : FC n r h S0
  dr : DR n ns S
  rw_ : S[r]? = some (some (.lst, ps0 ++ new))
  hh : S[h]? = some (some (.lst, hs0 ++ hds.map Hnd.pv))
  len : S0.length ≤ S.length
  fr : ∀ i, i < S0.length → i ≠ n → i ≠ r → i ≠ h → S[i]? = S0[i]?
  rws : RWs S0.length S new rows
  hb : hs0.length ≤ ps0.length
  hl : hds.length ≤ rows.length
  hB : ∀ x ∈ hds, x.d ≤ 200
section
variable {ns : List Int} {n r h : Nat} {S0 S S' : Sto} {ps0 hs0 new : List PV} {rows : List Rw} {hds : List Hnd}
theorem FS.start (c : FC n r h S0) (d : DR n ns S0) (hr : S0[r]? = some (some (.lst, ps0))) (hh : S0[h]? = some (some (.lst, hs0))) (hb : hs0.length ≤ ps0.length) : FS ns n r h S0 ps0 hs0 S0 [] [] [] :=
  ⟨c, d, by simpa using hr, by simpa using hh, Nat.le_refl _, fun _ _ _ _ _ => rfl, RWs.nil, hb, Nat.le_refl _, fun x hx => by simp at hx⟩
theorem FS.gs (f : FS ns n r h S0 ps0 hs0 S new rows hds) : GS ns n r S S (ps0 ++ new) := ⟨f.dr, f.rw_, f.c.nr, Nat.le_refl _, fun _ _ _ _ => rfl⟩
theorem FS.lens (f : FS ns n r h S0 ps0 hs0 S new rows hds) : (ps0 ++ new).length = ps0.length + rows.length := by rw [List.length_append, f.rws.len]
theorem FS.back (f : FS ns n r h S0 ps0 hs0 S new rows hds) {rows' : List Rw} (g : GS ns n r S S' (ps0 ++ new ++ rows'.map Rw.pv)) : FS ns n r h S0 ps0 hs0 S' (new ++ rows'.map Rw.pv) (rows ++ rows') hds := by
  have c := f.c
  refine ⟨c, g.dr, by rw [g.rw_, List.append_assoc], by rw [g.fr h (Nat.lt_of_lt_of_le c.h0 f.len) (Ne.symm c.nh) (Ne.symm c.rh)]; exact f.hh, Nat.le_trans f.len g.len, fun i h1 h2 h3 h4 => by rw [g.fr i (Nat.lt_of_lt_of_le h1 f.len) h2 h3]; exact f.fr i h1 h2 h3 h4, ?_, f.hb, by have := f.hl; rw [List.length_append]; omega, f.hB⟩
  have k : RWs S0.length S' new rows := f.rws.keep fun x h1 h2 => g.fr x h2 (by have := c.n0; omega) (by have := c.r0; omega)
  exact k.app (m := S.length) (fun i x e => (f.rws.ref_lt e).2) RWs.pure f.len
theorem FS.back0 (f : FS ns n r h S0 ps0 hs0 S new rows hds) (g : GS ns n r S S' (ps0 ++ new)) : FS ns n r h S0 ps0 hs0 S' new rows hds := by
  have := f.back (rows' := []) (S' := S') (by simpa using g)
  simpa using this
/-- a row that may change is put at the end -/
theorem FS.cell (f : FS ns n r h S0 ps0 hs0 S new rows hds) (x : Rw) : FS ns n r h S0 ps0 hs0 ((S ++ [some (Kd.lst, [x.i.pv, PV.int x.l])]).set r (some (Kd.lst, ps0 ++ new ++ [PV.ref S.length]))) (new ++ [PV.ref S.length]) (rows ++ [x]) hds := by
  have c := f.c
  have hn : n < S.length := Nat.lt_of_lt_of_le c.n0 f.len
  have hr : r < S.length := Nat.lt_of_lt_of_le c.r0 f.len
  have hh : h < S.length := Nat.lt_of_lt_of_le c.h0 f.len
  have old : ∀ i : Nat, i < S.length → i ≠ r → ((S ++ [some (Kd.lst, [x.i.pv, PV.int x.l])]).set r (some (Kd.lst, ps0 ++ new ++ [PV.ref S.length])))[i]? = S[i]? := fun i h1 h2 => by
    rw [List.getElem?_set_ne (Ne.symm h2), List.getElem?_append_left h1]
  obtain ⟨a, b, s, e, h0⟩ := f.dr
  refine ⟨c, ⟨a, b, s, by rw [old n hn c.nr]; exact e, h0⟩, ?_, by rw [old h hh (Ne.symm c.rh)]; exact f.hh, ?_, fun i h1 h2 h3 h4 => ?_, ?_, f.hb, by have := f.hl; rw [List.length_append]; omega, f.hB⟩
  · rw [List.getElem?_set_self (by simp; omega), List.append_assoc]
  · have := f.len; simp; omega
  · rw [old i (Nat.lt_of_lt_of_le h1 f.len) h3]; exact f.fr i h1 h2 h3 h4
  · have k : RWs S0.length ((S ++ [some (Kd.lst, [x.i.pv, PV.int x.l])]).set r (some (Kd.lst, ps0 ++ new ++ [PV.ref S.length]))) new rows := f.rws.keep fun i h1 h2 => old i h2 (by have := c.r0; omega)
    refine k.app (m := S.length) (fun i y e => (f.rws.ref_lt e).2) (RWs.one (r := x) ?_ (Nat.le_refl _)) f.len
    rw [List.getElem?_set_ne (by omega)]
    simp
theorem FS.patch {pa pb : List PV} {ra rb : List Rw} {x : Rw} {d : Nat} (y : Rw) (f : FS ns n r h S0 ps0 hs0 S (pa ++ .ref d :: pb) (ra ++ x :: rb) hds) (hl : pa.length = ra.length) : FS ns n r h S0 ps0 hs0 (S.set d (some (.lst, [y.i.pv, .int y.l]))) (pa ++ .ref d :: pb) (ra ++ y :: rb) hds := by
  have c := f.c
  have hd : S0.length ≤ d := (f.rws.ref_lt (i := pa.length) (c := d) (by simp)).1
  obtain ⟨a, b, s, e, h0⟩ := f.dr
  have h1 := c.n0; have h2 := c.r0; have h3 := c.h0
  exact ⟨c, ⟨a, b, s, by rw [List.getElem?_set_ne (by omega)]; exact e, h0⟩, by rw [List.getElem?_set_ne (by omega)]; exact f.rw_, by rw [List.getElem?_set_ne (by omega)]; exact f.hh, by rw [List.length_set]; exact f.len, fun i q1 q2 q3 q4 => by rw [List.getElem?_set_ne (by omega)]; exact f.fr i q1 q2 q3 q4, f.rws.patch y hl, f.hb, by have := f.hl; simp at this ⊢; omega, f.hB⟩
/-- what a part called in between adds -/
theorem FS.sub {new' : List PV} {rows' : List Rw} {hds' : List Hnd} (f : FS ns n r h S0 ps0 hs0 S new rows hds) (g : FS ns n r h S (ps0 ++ new) (hs0 ++ hds.map Hnd.pv) S' new' rows' hds') : FS ns n r h S0 ps0 hs0 S' (new ++ new') (rows ++ rows') (hds ++ hds') := by
  have c := f.c
  refine ⟨c, g.dr, by rw [g.rw_, List.append_assoc], by rw [g.hh, List.map_append, List.append_assoc], Nat.le_trans f.len g.len, fun i h1 h2 h3 h4 => by rw [g.fr i (Nat.lt_of_lt_of_le h1 f.len) h2 h3 h4]; exact f.fr i h1 h2 h3 h4, ?_, f.hb, by have := f.hl; have := g.hl; rw [List.length_append, List.length_append]; omega, fun x hx => (List.mem_append.mp hx).elim (f.hB x) (g.hB x)⟩
  have k : RWs S0.length S' new rows := f.rws.keep fun x h1 h2 => g.fr x h2 (by have := c.n0; omega) (by have := c.r0; omega) (by have := c.h0; omega)
  exact k.app (m := S.length) (fun i x e => (f.rws.ref_lt e).2) g.rws f.len
theorem FS.c' (f : FS ns n r h S0 ps0 hs0 S new rows hds) : FC n r h S := ⟨f.c.nr, f.c.nh, f.c.rh, Nat.lt_of_lt_of_le f.c.n0 f.len, Nat.lt_of_lt_of_le f.c.r0 f.len, Nat.lt_of_lt_of_le f.c.h0 f.len⟩
/-- a handler is put at the end -/
theorem FS.hpush (f : FS ns n r h S0 ps0 hs0 S new rows hds) (x : Hnd) (hz : hds.length < rows.length) (hx : x.d ≤ 200) : FS ns n r h S0 ps0 hs0 (S.set h (some (.lst, hs0 ++ hds.map Hnd.pv ++ [x.pv]))) new rows (hds ++ [x]) := by
  have c := f.c
  have h1 := c.h0; have h2 := f.len
  obtain ⟨a, b, s, e, h0⟩ := f.dr
  refine ⟨c, ⟨a, b, s, by rw [List.getElem?_set_ne (Ne.symm c.nh)]; exact e, h0⟩, by rw [List.getElem?_set_ne (Ne.symm c.rh)]; exact f.rw_, ?_, by rw [List.length_set]; exact h2, fun i q1 q2 q3 q4 => by rw [List.getElem?_set_ne (Ne.symm q4)]; exact f.fr i q1 q2 q3 q4, f.rws.keep fun i q1 q2 => List.getElem?_set_ne (by omega), f.hb, by rw [List.length_append]; simp; omega, fun y hy => (List.mem_append.mp hy).elim (f.hB y) fun hy => by rw [List.mem_singleton.mp hy]; exact hx⟩
  rw [List.getElem?_set_self (by omega)]
  simp
end
end Law
/-! Gd2: stretches with jumps. -/
namespace Law
open PySem PySem.Spec Pv
theorem Sg.cons {lo hi a : Nat} {r : Rw} {rs : List Rw} {hs : List Hnd} {D : Nat → Nat} (h : RwOk lo hi D a r) (h' : Sg lo hi (a + 1) rs hs D) : Sg lo hi a (r :: rs) hs D := by
  refine ⟨fun i x q => ?_, h'.hd⟩
  cases i with
  | zero => cases q; exact h
  | succ i =>
    have := h'.row i x (by simpa using q)
    rw [show a + 1 + i = a + (i + 1) by omega] at this
    exact this
theorem Blk.choice {a b l l' : Nat} {v rows1 rows2 : List Rw} {h1 h2 : List Hnd} (hv : Blk b a b (b + 1) v []) (B1 : Blk b (a + v.length + 1) b b rows1 h1) (B2 : Blk b (a + v.length + 1 + rows1.length + 1) b b rows2 h2) (hl : l ≤ 1000000) (hl' : l' ≤ 1000000) :
    Blk b a b b (v ++ ⟨.ji (a + v.length + 1 + rows1.length + 1), l⟩ :: (rows1 ++ ⟨.jp (a + v.length + 1 + rows1.length + 1 + rows2.length), l'⟩ :: rows2)) (h1 ++ h2) := by
  obtain ⟨Dv, sv, v1, v2, v3⟩ := hv
  obtain ⟨D1, s1, p1, p2, p3⟩ := B1
  obtain ⟨D2, s2, q1, q2, q3⟩ := B2
  have lt : (v ++ ⟨.ji (a + v.length + 1 + rows1.length + 1), l⟩ :: (rows1 ++ ⟨.jp (a + v.length + 1 + rows1.length + 1 + rows2.length), l'⟩ :: rows2)).length = v.length + 1 + rows1.length + 1 + rows2.length := by simp; omega
  generalize hx : a + v.length + 1 + rows1.length + 1 = T1 at *
  generalize hy : a + v.length = x at *
  let E : Nat → Nat := fun i => if i < x then Dv i else if i = x then b + 1 else if i < T1 then D1 i else D2 i
  have ev : ∀ i, a ≤ i → i ≤ a + v.length → E i = Dv i := fun i _ h => by
    show (if _ then _ else _) = _
    by_cases z : i < x
    · rw [if_pos z]
    · have : i = x := by omega
      rw [if_neg z, if_pos this, this, v2]
  have e1 : ∀ i, x + 1 ≤ i → i ≤ x + 1 + rows1.length → E i = D1 i := fun i h1 h2 => by
    show (if _ then _ else _) = _
    rw [if_neg (by omega), if_neg (by omega), if_pos (by omega)]
  have e2 : ∀ i, T1 ≤ i → i ≤ T1 + rows2.length → E i = D2 i := fun i h1 h2 => by
    show (if _ then _ else _) = _
    rw [if_neg (by omega), if_neg (by omega), if_neg (by omega)]
  have ex : E x = b + 1 := by
    show (if _ then _ else _) = _
    rw [if_neg (by omega), if_pos rfl]
  have hi : a + (v ++ ⟨.ji T1, l⟩ :: (rows1 ++ ⟨.jp (T1 + rows2.length), l'⟩ :: rows2)).length = T1 + rows2.length := by rw [lt]; omega
  refine Blk.of (D := E) ?_ ((ev a (Nat.le_refl _) (by omega)).trans v1) (by rw [hi]; exact (e2 _ (by omega) (Nat.le_refl _)).trans q2) fun j j1 j2 => ?_
  · rw [hi]
    have k : Sg a (T1 + rows2.length) a (v ++ ⟨.ji T1, l⟩ :: (rows1 ++ ⟨.jp (T1 + rows2.length), l'⟩ :: rows2)) ([] ++ (h1 ++ h2)) E := by
      refine (Sg.of sv (Nat.le_refl _) (by omega) ev).app ?_
      rw [hy]
      refine Sg.cons (r := ⟨.ji T1, l⟩) ⟨⟨trivial, hl⟩, by rw [ex]; show 1 ≤ _; omega, fun _ => ?_, fun t z => ?_, trivial⟩ ?_
      · rw [e1 _ (Nat.le_refl _) (by omega), p1, ex] <;> rfl
      · cases z
        exact ⟨by omega, by omega, by rw [e2 _ (Nat.le_refl _) (by omega), q1, ex] <;> rfl⟩
      · refine (Sg.of s1 (by omega) (by omega) e1).app ?_
        refine Sg.cons (r := ⟨.jp (T1 + rows2.length), l'⟩) ⟨⟨trivial, hl'⟩, Nat.zero_le _, fun z => (by cases z), fun t z => ?_, trivial⟩ ?_
        · cases z
          refine ⟨by omega, by omega, ?_⟩
          rw [e2 _ (by omega) (Nat.le_refl _), q2, e1 _ (by omega) (by omega), p2]
          rfl
        · rw [hx]
          exact Sg.of s2 (by omega) (by omega) e2
    simpa using k
  · rw [hi] at j2
    by_cases z : j < x
    · rw [ev j j1 (by omega)]; exact v3 j j1 (by omega)
    · by_cases z2 : j = x
      · rw [z2, ex]; omega
      · by_cases z3 : j < T1
        · rw [e1 j (by omega) (by omega)]
          by_cases z4 : j < x + 1 + rows1.length
          · exact p3 j (by omega) z4
          · have : j = x + 1 + rows1.length := by omega
            rw [this, p2]; exact Nat.le_refl _
        · rw [e2 j (by omega) (by omega)]; exact q3 j (by omega) (by omega)
/-- a last row that leads back -/
theorem Blk.back {f a b e : Nat} {rs : List Rw} {hs : List Hnd} {r : Rw} (B : Blk f a b e rs hs) (hf : f ≤ e) (g : r.good) (hr : r.i.rem ≤ e) (he : e - r.i.rem + r.i.push = b) (ht : r.i.tgt = some a) : Blk f a b b (rs ++ [r]) hs := by
  obtain ⟨D, s, p1, p2, p3⟩ := B
  have hl : a + (rs ++ [r]).length = a + rs.length + 1 := by simp; omega
  have e1 : ∀ i, a ≤ i → i ≤ a + rs.length → (if i ≤ a + rs.length then D i else b) = D i := fun i _ h => if_pos h
  refine Blk.of (D := fun i => if i ≤ a + rs.length then D i else b) ?_ ((e1 a (Nat.le_refl _) (by omega)).trans p1) (by rw [hl]; exact if_neg (by omega)) fun j j1 j2 => ?_
  · have k : Sg a (a + (rs ++ [r]).length) a (rs ++ [r]) (hs ++ []) (fun i => if i ≤ a + rs.length then D i else b) := by
      refine (Sg.of s (Nat.le_refl _) (by omega) e1).app (Sg.one ⟨g, ?_, fun _ => ?_, fun t z => ?_, abc_tgt ht⟩)
      · rw [e1 _ (by omega) (Nat.le_refl _), p2]; exact hr
      · rw [if_neg (by omega), e1 _ (by omega) (Nat.le_refl _), p2]; exact he.symm
      · rw [ht] at z
        cases z
        exact ⟨Nat.le_refl _, by omega, by rw [e1 a (Nat.le_refl _) (by omega), p1, e1 _ (by omega) (Nat.le_refl _), p2]; exact he.symm⟩
    simpa using k
  · rw [hl] at j2
    rw [e1 j j1 (by omega)]
    by_cases z : j < a + rs.length
    · exact p3 j j1 z
    · have : j = a + rs.length := by omega
      rw [this, p2]; exact hf
theorem Blk.guard {a b l : Nat} {rows1 rows2 : List Rw} {h1 hx : List Hnd} {k : Option Str} (B1 : Blk b a b b rows1 h1) (B2 : Blk b (a + rows1.length + 1) b b rows2 []) (hl : l ≤ 1000000)
    (hh : ∀ x ∈ hx, x = ⟨a, a + rows1.length, a + rows1.length + 1, b, k⟩ ∧ 0 < rows1.length ∧ x.good) : Blk b a b b (rows1 ++ ⟨.jp (a + rows1.length + 1 + rows2.length), l⟩ :: rows2) (h1 ++ hx) := by
  obtain ⟨D1, s1, p1, p2, p3⟩ := B1
  obtain ⟨D2, s2, q1, q2, q3⟩ := B2
  generalize hx' : a + rows1.length = x at *
  have lt : a + (rows1 ++ ⟨.jp (x + 1 + rows2.length), l⟩ :: rows2).length = x + 1 + rows2.length := by simp; omega
  let E : Nat → Nat := fun i => if i ≤ x then D1 i else D2 i
  have e1 : ∀ i, a ≤ i → i ≤ a + rows1.length → E i = D1 i := fun i _ h => if_pos (by omega)
  have e2 : ∀ i, x + 1 ≤ i → i ≤ x + 1 + rows2.length → E i = D2 i := fun i h _ => if_neg (by omega)
  refine Blk.of (D := E) ?_ ((e1 a (Nat.le_refl _) (by omega)).trans p1) (by rw [lt]; exact (e2 _ (by omega) (Nat.le_refl _)).trans q2) fun j j1 j2 => ?_
  · rw [lt]
    have k : Sg a (x + 1 + rows2.length) a (rows1 ++ ⟨.jp (x + 1 + rows2.length), l⟩ :: rows2) (h1 ++ []) E := by
      refine (Sg.of s1 (Nat.le_refl _) (by omega) e1).app ?_
      rw [hx']
      refine Sg.cons (r := ⟨.jp (x + 1 + rows2.length), l⟩) ⟨⟨trivial, hl⟩, Nat.zero_le _, fun z => (by cases z), fun t z => ?_, trivial⟩ ?_
      · cases z
        refine ⟨by omega, by omega, ?_⟩
        rw [e2 _ (by omega) (Nat.le_refl _), q2, e1 x (by omega) (by omega), p2] <;> rfl
      · exact Sg.of s2 (by omega) (by omega) e2
    refine ⟨by simpa using k.row, fun y hy => ?_⟩
    rcases List.mem_append.mp hy with hy | hy
    · exact k.hd y (by simpa using hy)
    · obtain ⟨rfl, z, gd⟩ := hh y hy
      exact ⟨gd, Nat.le_refl _, by show a < x; omega, by show x ≤ _; omega, by show a ≤ x + 1; omega, by show x + 1 ≤ _; omega, (e2 _ (Nat.le_refl _) (by omega)).trans q1, fun j j1 j2 => by
        have j1 : a ≤ j := j1
        have j2 : j < x := j2
        show b ≤ E j
        rw [e1 j j1 (by omega)]
        exact p3 j j1 (by omega)⟩
  · rw [lt] at j2
    by_cases z : j < x
    · rw [e1 j j1 (by omega)]; exact p3 j j1 (by omega)
    · by_cases z2 : j = x
      · rw [z2, e1 x (by omega) (by omega), p2]; exact Nat.le_refl _
      · rw [e2 j (by omega) (by omega)]; exact q3 j (by omega) (by omega)
end Law
/-! G7: rules for the parts that call one another. -/
namespace Law
open PySem PySem.Spec PyProof.Rows L2 Pv
/-- a part adds a good stretch -/
def FamOk (F : List PV → Sto → R PV) (d cap : Nat) (lim : Nat → Nat) : Prop := ∀ (ns : List Int) (n r h : Nat) (S : Sto) (ps hs : List PV) (b : Nat), FC n r h S → DR n ns S → S[r]? = some (some (.lst, ps)) → S[h]? = some (some (.lst, hs)) → hs.length ≤ ps.length → ps.length ≤ cap → b + d ≤ 100 →
  okR (F [.ref n, .ref r, .ref h, .int (d : Nat), .int (b : Nat)] S) fun _ S' => ∃ new rows hds, FS ns n r h S ps hs S' new rows hds ∧ Blk b ps.length b b rows hds ∧ ps.length + rows.length ≤ lim ps.length
section
variable {ns : List Int} {n r h : Nat} {S0 S S' : Sto} {ps0 hs0 new : List PV} {rows : List Rw} {hds : List Hnd} {Γ : Gam} {i : Nat} {Q : PV → Sto → Prop} {P : RS → Prop} {t u : SF} {as : AF} {te tl td tb : EF}
theorem fline (f : FS ns n r h S0 ps0 hs0 S new rows hds) (hi : Γ[i]? = some (some (.ref n))) (k : ∀ (l : Nat) S', l ≤ 1000000 → FS ns n r h S0 ps0 hs0 S' new rows hds → Q (.int l) S') : okR (eCallW f_law_line (aCons (eV i) aNil) Γ S) Q :=
  Pv.W.callW (Pv.W.cons (Pv.W.var hi (Pv.W.nil (gline f.gs fun l S' hl g => k l S' hl (f.back0 g)))))
theorem fdraw (f : FS ns n r h S0 ps0 hs0 S new rows hds) {m : Int} (hi : Γ[i]? = some (some (.ref n))) (k : ∀ (j : Nat) S', (j : Int) < m → FS ns n r h S0 ps0 hs0 S' new rows hds → Q (.int j) S') (hm : 0 < m := by decide) (hm2 : m < 1073741824 := by decide) :
    okR (eCallW f_law_draw (aCons (eV i) (aCons (eC (.int m)) aNil)) Γ S) Q := gdraw f.gs hi (fun j S' hj g => k j S' hj (f.back0 g)) hm hm2
theorem fpickL (ls : List Nat) {m : Int} (f : FS ns n r h S0 ps0 hs0 S new rows hds) (ha : as Γ S = .ok (ls.map fun l => .int (l : Nat)) S) (hi : Γ[i]? = some (some (.ref n))) (hl : m = ls.length) (k : ∀ l ∈ ls, ∀ S', FS ns n r h S0 ps0 hs0 S' new rows hds → Q (.int (l : Nat)) S') (h0 : 0 < m := by decide) (h1 : m < 100 := by decide) :
    okR (eOp ixF (eLst false as) (eCallW f_law_draw (aCons (eV i) (aCons (eC (.int m)) aNil))) Γ S) Q := gpickL ls f.gs ha hi hl (fun l hl S' g => k l hl S' (f.back0 g)) h0 h1
theorem flen (f : FS ns n r h S0 ps0 hs0 S new rows hds) (h1 : Γ[i]? = some (some (.ref r))) (q : Q (.int (ps0.length + rows.length : Nat)) S) : okR (eCall lenF (aCons (eV i) aNil) Γ S) Q := glen f.gs h1 (by rw [f.lens]; exact q)
/-- a row put at the end, no one changes it -/
theorem frow (f : FS ns n r h S0 ps0 hs0 S new rows hds) (h1 : Γ[1]? = some (some (.ref r))) (hz : ps0.length + rows.length < 100000)
    (k : okR (te Γ S) fun v S1 => ∃ x : Rw, v = x.pv ∧ FS ns n r h S0 ps0 hs0 S1 new rows hds ∧ ∀ S2 new2, FS ns n r h S0 ps0 hs0 S2 new2 (rows ++ [x]) hds → rsP (.nx Γ S2) P) : rsP (sExpr (eM "list" appendF (eV 1) (aCons te aNil)) Γ S) P := by
  refine Pv.W.expr (Pv.W.meth (Pv.W.var h1 ⟨?_, Pv.W.cons (k.mono fun v S1 ⟨x, e, f1, k⟩ => Pv.W.nil ?_)⟩))
  · rw [tyP_refD, f.rw_]; rfl
  · subst e
    refine ⟨.non, _, ?_, k _ _ (f1.back (rows' := [x]) (f1.gs.push x.pv))⟩
    have z : (ps0 ++ new).length < sizeLine := by have : sizeLine = 16777216 := sizeLine_eq; rw [f.lens]; omega
    show lstF _ _ _ _ = _
    unfold lstF
    simp only [f1.rw_, Option.join_some]
    rw [if_pos z]
    rfl
/-- a row put at the end that may be changed -/
theorem fcell (f : FS ns n r h S0 ps0 hs0 S new rows hds) (h1 : Γ[1]? = some (some (.ref r))) (hz : ps0.length + rows.length < 100000)
    (k : okR (te Γ S) fun v S1 => okR (tl Γ S1) fun w S2 => ∃ x : Rw, v = x.i.pv ∧ w = .int (x.l : Nat) ∧ FS ns n r h S0 ps0 hs0 S2 new rows hds ∧ ∀ S3 c, FS ns n r h S0 ps0 hs0 S3 (new ++ [.ref c]) (rows ++ [x]) hds → rsP (.nx Γ S3) P) :
    rsP (sExpr (eM "list" appendF (eV 1) (aCons (eLst true (aCons te (aCons tl aNil))) aNil)) Γ S) P := by
  refine Pv.W.expr (Pv.W.meth (Pv.W.var h1 ⟨?_, Pv.W.cons (Pv.W.lstT (Pv.W.cons (k.mono fun v S1 k2 => Pv.W.cons (k2.mono fun w S2 ⟨x, e1, e2, f2, k3⟩ => Pv.W.nil ⟨by have : sizeLine = 16777216 := sizeLine_eq; simp; omega, Pv.W.nil ?_⟩))))⟩))
  · rw [tyP_refD, f.rw_]; rfl
  · subst e1 e2
    refine ⟨.non, _, ?_, k3 _ S2.length (f2.cell x)⟩
    have z : (ps0 ++ new).length < sizeLine := by have : sizeLine = 16777216 := sizeLine_eq; rw [f.lens]; omega
    have hr : r < S2.length := (List.getElem?_eq_some_iff.mp f2.rw_).1
    show lstF _ _ _ _ = _
    unfold lstF
    simp only [List.getElem?_append_left hr, f2.rw_, Option.join_some]
    rw [if_pos z]
    rfl
theorem fsub {F : List PV → Sto → R PV} {d cap b : Nat} {lim : Nat → Nat} (hF : FamOk F d cap lim) (f : FS ns n r h S0 ps0 hs0 S new rows hds) (h0 : Γ[0]? = some (some (.ref n))) (h1 : Γ[1]? = some (some (.ref r))) (h2 : Γ[2]? = some (some (.ref h)))
    (h3 : td Γ S = .ok (.int (d : Nat)) S) (h4 : tb Γ S = .ok (.int (b : Nat)) S) (hc : ps0.length + rows.length ≤ cap)
    (k : ∀ S' new' rows' hds', FS ns n r h S0 ps0 hs0 S' (new ++ new') (rows ++ rows') (hds ++ hds') → Blk b (ps0.length + rows.length) b b rows' hds' → ps0.length + rows.length + rows'.length ≤ lim (ps0.length + rows.length) → new'.length = rows'.length → rsP (.nx Γ S') P) (hbd : b + d ≤ 100 := by omega) :
    rsP (sExpr (eCallW F (aCons (eV 0) (aCons (eV 1) (aCons (eV 2) (aCons td (aCons tb aNil)))))) Γ S) P := by
  refine Pv.W.expr (Pv.W.callW (Pv.W.cons (Pv.W.var h0 (Pv.W.cons (Pv.W.var h1 (Pv.W.cons (Pv.W.var h2 (Pv.W.cons (okR.of h3 (Pv.W.cons (okR.of h4 (Pv.W.nil ?_))))))))))))
  refine (hF ns n r h S (ps0 ++ new) (hs0 ++ hds.map Hnd.pv) b f.c' f.dr f.rw_ f.hh (by have := f.hb; have := f.hl; rw [f.lens]; simp; omega) (by rw [f.lens]; exact hc) hbd).mono fun v S' ⟨new', rows', hds', g, bk, lm⟩ => ?_
  rw [f.lens] at bk lm
  exact k S' new' rows' hds' (f.sub g) bk lm g.rws.len
theorem fpatch {pa pb : List PV} {ra rb : List Rw} {x : Rw} {c j : Nat} {s : Str} (mk : Nat → Itr) (f : FS ns n r h S0 ps0 hs0 S (pa ++ .ref c :: pb) (ra ++ x :: rb) hds) (hl : pa.length = ra.length) (h1 : Γ[1]? = some (some (.ref r))) (hj : Γ[j]? = some (some (.int (ps0.length + ra.length : Nat))))
    (hm : ∀ t : Nat, (mk t).pv = .con .own .tup [.str s, .int (t : Nat)]) (k : ∀ S', FS ns n r h S0 ps0 hs0 S' (pa ++ .ref c :: pb) (ra ++ ⟨mk (ps0.length + (ra ++ x :: rb).length), x.l⟩ :: rb) hds → rsP (.nx Γ S') P) :
    rsP (sAsg (eTup (aCons (eC (.str s)) (aCons (eCall lenF (aCons (eV 1) aNil)) aNil))) (gSubF setLF (eOp ixF (eV 1) (eV j)) (eC (.int 0))) Γ S) P := by
  refine Pv.W.asg (gtup2 (Pv.W.con (flen f h1 ?_)))
  have hc : S[c]? = some (some (.lst, [x.i.pv, .int x.l])) := by
    rcases f.rws.at_ pa.length (.ref c) x (by simp) (by rw [hl]; simp) with q | ⟨d, q, q1, q2⟩
    · cases q
    · cases q; exact q2
  refine okR.bind (Pv.W.op (Pv.W.var h1 (Pv.W.var hj ⟨.ref c, S, ?_, ?_⟩)))
  · show (ixB S (.ref r) (.int _)).map _ = _
    rw [ixB_ref f.rw_, atI_nat]
    have : (ps0 ++ (pa ++ .ref c :: pb))[ps0.length + ra.length]? = some (.ref c) := by
      rw [List.getElem?_append_right (by omega), ← hl]
      simp
    rw [this]
    rfl
  · have e : setLF (.ref c) (.int 0) (.con .own .tup [.str s, .int (ps0.length + (ra ++ x :: rb).length : Nat)]) S = some (S.set c (some (.lst, [(mk (ps0.length + (ra ++ x :: rb).length)).pv, .int x.l]))) := by
      rw [setLF_ref hc, hm]
      rfl
    show okR (match setLF (.ref c) (.int 0) (.con .own .tup [.str s, .int (ps0.length + (ra ++ x :: rb).length : Nat)]) S with
      | some S3 => R.ok Γ S3
      | none => .bad) _
    rw [e]
    exact k _ (f.patch ⟨mk (ps0.length + (ra ++ x :: rb).length), x.l⟩ hl)
end
end Law
/-! G8: choices, loops, guarded parts. -/
namespace Law
open PySem PySem.Spec PyProof.Rows L2 Pv
def Bd : Nat → Nat
  | 0 => 68
  | d + 1 => max (Bd d) 75 + 28
def blim (d : Nat) : Nat → Nat := fun m => max (Bd d) (m + 18)
def clim (d : Nat) : Nat → Nat := fun _ => max (Bd d) 75 + 19
theorem choice_ok {F : List PV → Sto → R PV} {d : Nat} (hF : FamOk F d 1000 (blim d)) (hd : Bd d ≤ 900) : FamOk (runW 5 8 (body_law_choice F)) d 50 (clim d) := by
  intro ns n r h S ps hs b c dr hr hh hb hc hbd
  have f := FS.start c dr hr hh hb
  refine Pv.W.run rfl (Pv.W.seq (Pv.W.set (fline f rfl fun l S1 hl f1 => Pv.W.go ?_)))
  refine Pv.W.seq (svalue f1.gs hl (by simp; omega) rfl rfl rfl fun v S2 g2 hv => Pv.W.go ?_)
  have f2 := f1.back g2
  simp only [List.nil_append] at f2
  have hvl := hv.len
  refine Pv.W.seq (fcell f2 rfl (by omega) (gtup2 (Pv.W.con (Pv.W.con (Pv.W.var rfl ⟨⟨.ji 0, l⟩, rfl, rfl, f2, fun S3 c1 f3 => Pv.W.go ?_⟩)))))
  have l3 : (v ++ [(⟨.ji 0, l⟩ : Rw)]).length = v.length + 1 := by simp
  refine Pv.W.seq (Pv.W.set (Pv.W.op (flen f3 rfl (Pv.W.con ⟨.int (ps.length + v.length : Nat), S3, ?_, Pv.W.go ?_⟩))))
  · rw [l3]
    show some (PV.int _, S3) = some (PV.int _, S3)
    congr 3
    omega
  refine Pv.W.seq (fsub hF f3 rfl rfl rfl rfl rfl (by rw [l3]; omega) fun S4 new1 rows1 hds1 f4 bk1 lm1 hn1 => Pv.W.go ?_)
  rw [l3] at bk1 lm1
  have l4 : (v ++ [(⟨.ji 0, l⟩ : Rw)] ++ rows1).length = v.length + 1 + rows1.length := by simp; omega
  have lm1' : ps.length + (v.length + 1) + rows1.length ≤ max (Bd d) 75 := Nat.le_trans lm1 (by unfold blim; omega)
  refine Pv.W.seq (fcell f4 rfl (by rw [l4]; omega) (gtup2 (Pv.W.con (Pv.W.con (fpickL [0, l] f4 rfl rfl rfl fun l' hl' S5 f5 => ⟨⟨.jp 0, l'⟩, rfl, rfl, f5, fun S6 c2 f6 => Pv.W.go ?_⟩)))))
  have e1 : l' ≤ 1000000 := by simp at hl'; omega
  have l6 : (v ++ [(⟨.ji 0, l⟩ : Rw)] ++ rows1 ++ [(⟨.jp 0, l'⟩ : Rw)]).length = v.length + 1 + rows1.length + 1 := by simp; omega
  refine Pv.W.seq (Pv.W.set (Pv.W.op (flen f6 rfl (Pv.W.con ⟨.int (ps.length + (v.length + 1 + rows1.length) : Nat), S6, ?_, Pv.W.go ?_⟩))))
  · rw [l6]
    show some (PV.int _, S6) = some (PV.int _, S6)
    congr 3
    omega
  have f6' : FS ns n r h S ps hs S6 (v.map Rw.pv ++ .ref c1 :: (new1 ++ [.ref c2])) (v ++ ⟨.ji 0, l⟩ :: (rows1 ++ [⟨.jp 0, l'⟩])) ([] ++ hds1) := by simpa using f6
  refine Pv.W.seq (fpatch .ji f6' (by simp) rfl rfl (fun t => rfl) fun S7 f7 => Pv.W.go ?_)
  have l7 : ps.length + (v ++ (⟨.ji 0, l⟩ : Rw) :: (rows1 ++ [⟨.jp 0, l'⟩])).length = ps.length + v.length + 1 + rows1.length + 1 := by simp; omega
  rw [l7] at f7
  generalize hT : ps.length + v.length + 1 + rows1.length + 1 = T1 at f7
  have l8 : ps.length + (v ++ (⟨.ji T1, l⟩ : Rw) :: (rows1 ++ [⟨.jp 0, l'⟩])).length = T1 := by simp; omega
  refine Pv.W.seq (fsub hF f7 rfl rfl rfl rfl rfl (by rw [l8]; omega) fun S8 new2 rows2 hds2 f8 bk2 lm2 hn2 => Pv.W.go ?_)
  rw [l8] at bk2 lm2
  have f8' : FS ns n r h S ps hs S8 ((v.map Rw.pv ++ .ref c1 :: new1) ++ .ref c2 :: new2) ((v ++ ⟨.ji T1, l⟩ :: rows1) ++ ⟨.jp 0, l'⟩ :: rows2) (hds1 ++ hds2) := by simpa using f8
  have l9 : (v ++ (⟨.ji T1, l⟩ : Rw) :: rows1).length = v.length + 1 + rows1.length := by simp; omega
  refine fpatch .jp f8' (by simp [hn1]) rfl (by rw [l9]; rfl) (fun t => rfl) fun S9 f9 => ?_
  have l10 : ps.length + ((v ++ ⟨.ji T1, l⟩ :: rows1) ++ (⟨.jp 0, l'⟩ : Rw) :: rows2).length = T1 + rows2.length := by simp; omega
  rw [l10] at f9
  refine ⟨_, _, _, f9, ?_, ?_⟩
  · subst hT
    have bk := Blk.choice (hv.blk ps.length b) bk1 bk2 hl e1
    simpa using bk
  · have : blim d T1 ≤ max (Bd d) 75 + 19 := by unfold blim; omega
    have l11 : ((v ++ ⟨.ji T1, l⟩ :: rows1) ++ (⟨.jp (T1 + rows2.length), l'⟩ : Rw) :: rows2).length = v.length + 1 + rows1.length + 1 + rows2.length := by simp; omega
    rw [l11]
    unfold clim
    omega
end Law
/-! G9: loops, guarded parts. -/
namespace Law
open PySem PySem.Spec PyProof.Rows L2 Pv
def ltail (l : Nat) : List Rw := [⟨.ld "a", l⟩, ⟨.c 1, l⟩, ⟨.op .sub, l⟩, ⟨.op .copy, l⟩, ⟨.sto "a", l⟩, ⟨.c 0, l⟩, ⟨.op .less, l⟩, ⟨.op .not, l⟩]
theorem blk_ltail {l a b : Nat} (hl : l ≤ 1000000) : Blk b a b (b + 1) (ltail l) [] := by
  have one : ∀ (a x y : Nat) (i : Itr), i.good → i.rem ≤ x → y = x - i.rem + i.push → i.last = false → i.tgt = none → b ≤ x → i.abc → Blk b a x y [⟨i, l⟩] [] := fun a x y i h1 h2 h3 h4 h5 h6 h7 => Blk.one ⟨h1, hl⟩ h2 h3 h4 h5 h6 h7
  have s1 := one a b (b + 1) (.ld "a") (show WdOk "a" by decide +kernel) (Nat.zero_le _) rfl rfl rfl (by omega) (by decide +kernel : ("a" : Str) ∈ (["a", "b", "c"] : List Str))
  have s2 := one (a + 1) (b + 1) (b + 2) (.c 1) ⟨by decide, by decide⟩ (Nat.zero_le _) rfl rfl rfl (by omega) trivial
  have s3 := one (a + 1 + 1) (b + 2) (b + 1) (.op .sub) trivial (by show 2 ≤ _; omega) (by show _ = b + 2 - 2 + 1; omega) rfl rfl (by omega) trivial
  have s4 := one (a + 1 + 1 + 1) (b + 1) (b + 2) (.op .copy) trivial (by show 1 ≤ _; omega) (by show _ = b + 1 - 1 + 2; omega) rfl rfl (by omega) trivial
  have s5 := one (a + 1 + 1 + 1 + 1) (b + 2) (b + 1) (.sto "a") (show WdOk "a" by decide +kernel) (by show 1 ≤ _; omega) (by show _ = b + 2 - 1 + 0; omega) rfl rfl (by omega) (by decide +kernel : ("a" : Str) ∈ (["a", "b", "c"] : List Str))
  have s6 := one (a + 1 + 1 + 1 + 1 + 1) (b + 1) (b + 2) (.c 0) ⟨by decide, by decide⟩ (Nat.zero_le _) rfl rfl rfl (by omega) trivial
  have s7 := one (a + 1 + 1 + 1 + 1 + 1 + 1) (b + 2) (b + 1) (.op .less) trivial (by show 2 ≤ _; omega) (by show _ = b + 2 - 2 + 1; omega) rfl rfl (by omega) trivial
  have s8 := one (a + 1 + 1 + 1 + 1 + 1 + 1 + 1) (b + 1) (b + 1) (.op .not) trivial (by show 1 ≤ _; omega) (by show _ = b + 1 - 1 + 1; omega) rfl rfl (by omega) trivial
  exact s1.app (s2.app (s3.app (s4.app (s5.app (s6.app (s7.app s8))))))
theorem loop_ok {F : List PV → Sto → R PV} {d : Nat} (hF : FamOk F d 1000 (blim d)) (hd : Bd d ≤ 900) : FamOk (runW 5 8 (body_law_loop F)) d 50 (clim d) := by
  intro ns n r h S ps hs b c dr hr hh hb hc hbd
  have f := FS.start c dr hr hh hb
  refine Pv.W.run rfl (Pv.W.seq (Pv.W.set (fline f rfl fun l S1 hl f1 => Pv.W.go ?_)))
  refine Pv.W.seq (Pv.W.set (flen f1 rfl (Pv.W.go ?_)))
  refine Pv.W.seq (fsub hF f1 rfl rfl rfl rfl rfl (by simp; omega) fun S2 new1 rows1 hds1 f2 bk1 lm1 hn1 => Pv.W.go ?_)
  simp only [List.nil_append, List.length_nil, Nat.add_zero] at f2 bk1 lm1
  have lm : ps.length + rows1.length ≤ max (Bd d) 68 := Nat.le_trans lm1 (by unfold blim; omega)
  have fin : ∀ (rs : List Rw) (S' : Sto) (new' : List PV), FS ns n r h S ps hs S' new' (rows1 ++ rs) hds1 → rs.length ≤ 9 → Blk b ps.length b b (rows1 ++ rs) hds1 → ∃ new rows hds, FS ns n r h S ps hs S' new rows hds ∧ Blk b ps.length b b rows hds ∧ ps.length + rows.length ≤ clim d ps.length := fun rs S' new' f' hr' bk => by
    refine ⟨_, _, _, f', bk, ?_⟩
    rw [List.length_append]
    unfold clim
    omega
  refine Pv.W.seq (Pv.W.set (fdraw f2 rfl fun j S3 hj f3 => Pv.W.go ?_))
  refine Pv.W.iteEq (x := j) (y := 0) rfl (fun _ => ?_) fun _ => ?_
  · refine frow f3 rfl (by omega) (growW (gtup2 (Pv.W.con (Pv.W.var rfl (fpickL [0, l] f3 rfl rfl rfl fun l' hl' S4 f4 => ⟨⟨.jp ps.length, l'⟩, rfl, f4, fun S5 new5 f5 => ?_⟩)))))
    have e1 : l' ≤ 1000000 := by simp at hl'; omega
    exact fin _ _ _ f5 (by simp) (bk1.back (r := ⟨.jp ps.length, l'⟩) (Nat.le_refl _) ⟨trivial, e1⟩ (Nat.zero_le _) rfl rfl)
  · have st : ∀ (x : Rw) (k : Nat) {rs : List Rw} {S' : Sto} {new' : List PV} {te : EF} {Γ : Gam} {P : RS → Prop} (f' : FS ns n r h S ps hs S' new' (rows1 ++ rs) hds1), rs.length = k → k < 20 → Γ[1]? = some (some (.ref r)) → okR (te Γ S') (fun v S1 => v = x.pv ∧ S1 = S') → (∀ S2 new2, FS ns n r h S ps hs S2 new2 (rows1 ++ (rs ++ [x])) hds1 → rsP (.nx Γ S2) P) → rsP (sExpr (eM "list" appendF (eV 1) (aCons te aNil)) Γ S') P := fun x k {rs S' new' te Γ P} f' hk hk2 h1 hv k2 =>
      frow f' h1 (by rw [List.length_append]; omega) (hv.mono fun v S1 ⟨e1, e2⟩ => ⟨x, e1, by subst e2; exact f', fun S2 new2 f2 => k2 S2 new2 (by rw [← List.append_assoc]; exact f2)⟩)
    have f3 : FS ns n r h S ps hs S3 new1 (rows1 ++ []) hds1 := by simpa using f3
    refine Pv.W.seq (st ⟨.ld "a", l⟩ 0 f3 rfl (by decide) rfl (growW (gtup2 (Pv.W.con (Pv.W.con (Pv.W.var rfl ⟨rfl, rfl⟩))))) fun S4 n4 f4 => Pv.W.go ?_)
    refine Pv.W.seq (st ⟨.c 1, l⟩ 1 f4 rfl (by decide) rfl (growW (gtup2 (Pv.W.con (Pv.W.con (Pv.W.var rfl ⟨rfl, rfl⟩))))) fun S5 n5 f5 => Pv.W.go ?_)
    refine Pv.W.seq (st ⟨.op .sub, l⟩ 2 f5 rfl (by decide) rfl (growW (gtup1 (Pv.W.con (Pv.W.var rfl ⟨rfl, rfl⟩)))) fun S6 n6 f6 => Pv.W.go ?_)
    refine Pv.W.seq (st ⟨.op .copy, l⟩ 3 f6 rfl (by decide) rfl (growW (gtup1 (Pv.W.con (Pv.W.var rfl ⟨rfl, rfl⟩)))) fun S7 n7 f7 => Pv.W.go ?_)
    refine Pv.W.seq (st ⟨.sto "a", l⟩ 4 f7 rfl (by decide) rfl (growW (gtup2 (Pv.W.con (Pv.W.con (Pv.W.var rfl ⟨rfl, rfl⟩))))) fun S8 n8 f8 => Pv.W.go ?_)
    refine Pv.W.seq (st ⟨.c 0, l⟩ 5 f8 rfl (by decide) rfl (growW (gtup2 (Pv.W.con (Pv.W.con (Pv.W.var rfl ⟨rfl, rfl⟩))))) fun S9 n9 f9 => Pv.W.go ?_)
    refine Pv.W.seq (st ⟨.op .less, l⟩ 6 f9 rfl (by decide) rfl (growW (gtup1 (Pv.W.con (Pv.W.var rfl ⟨rfl, rfl⟩)))) fun S10 n10 f10 => Pv.W.go ?_)
    refine Pv.W.seq (st ⟨.op .not, l⟩ 7 f10 rfl (by decide) rfl (growW (gtup1 (Pv.W.con (Pv.W.var rfl ⟨rfl, rfl⟩)))) fun S11 n11 f11 => Pv.W.go ?_)
    refine st ⟨.ji ps.length, l⟩ 8 f11 rfl (by decide) rfl (growW (gtup2 (Pv.W.con (Pv.W.var rfl (Pv.W.var rfl ⟨rfl, rfl⟩))))) fun S12 n12 f12 => ?_
    refine fin _ _ _ f12 (by simp) ?_
    have bk := Blk.back (r := ⟨.ji ps.length, l⟩) (bk1.app (blk_ltail (a := ps.length + rows1.length) hl)) (by omega) ⟨trivial, hl⟩ (by show 1 ≤ _; omega) (by show b + 1 - 1 + 0 = b; omega) rfl
    simpa [ltail] using bk
end Law
/-! G10: guarded parts. -/
namespace Law
open PySem PySem.Spec PyProof.Rows L2 Pv
section
variable {ns : List Int} {n r h : Nat} {S0 S S' : Sto} {ps0 hs0 new : List PV} {rows : List Rw} {hds : List Hnd} {Γ : Gam} {i : Nat} {Q : PV → Sto → Prop} {P : RS → Prop} {t u : SF} {as : AF}
theorem fplain (f : FS ns n r h S0 ps0 hs0 S new rows hds) (h0 : Γ[0]? = some (some (.ref n))) (h1 : Γ[1]? = some (some (.ref r))) (hz : ps0.length + rows.length < 80000)
    (k : ∀ S' new' rows', FS ns n r h S0 ps0 hs0 S' (new ++ new') (rows ++ rows') hds → new'.length = rows'.length → rows'.length ≤ 9 → (∀ b, Blk b (ps0.length + rows.length) b b rows' []) → rsP (.nx Γ S') P) :
    rsP (sExpr (eCallW f_law_plain (aCons (eV 0) (aCons (eV 1) aNil))) Γ S) P :=
  Pv.W.expr (Pv.W.callW (Pv.W.cons (Pv.W.var h0 (Pv.W.cons (Pv.W.var h1 (Pv.W.nil (gplain f.gs (by rw [f.lens]; exact hz) fun rows' S' g hl bk => k S' _ rows' (f.back g) (List.length_map _) hl (by rw [f.lens] at bk; exact bk))))))))
theorem fpickK (ks : List (Option Str)) {m : Int} (f : FS ns n r h S0 ps0 hs0 S new rows hds) (ha : as Γ S = .ok (ks.map okP) S) (hi : Γ[i]? = some (some (.ref n))) (hl : m = ks.length) (k : ∀ o ∈ ks, ∀ S', FS ns n r h S0 ps0 hs0 S' new rows hds → Q (okP o) S') (h0 : 0 < m := by decide) (h1 : m < 100 := by decide) :
    okR (eOp ixF (eLst false as) (eCallW f_law_draw (aCons (eV i) (aCons (eC (.int m)) aNil))) Γ S) Q :=
  gpick f.gs ha hi (by rw [List.length_map]; exact hl) (fun v hv S' g' => by
    obtain ⟨w, hw, rfl⟩ := List.mem_map.mp hv
    exact k w hw S' (f.back0 g')) h0 h1
theorem fins (f : FS ns n r h S0 ps0 hs0 S new rows hds) (x : Hnd) (hz : hds.length < rows.length) (hp : ps0.length + rows.length < 100000) {k : Nat} (hk : k = (hs0 ++ hds.map Hnd.pv).length) :
    insertF (.ref h) [.int (k : Nat), x.pv] S = some (.non, S.set h (some (.lst, hs0 ++ hds.map Hnd.pv ++ [x.pv]))) := by
  have l : (hs0 ++ hds.map Hnd.pv).length < 100000 := by have := f.hb; rw [List.length_append, List.length_map]; omega
  have z : sizeLine = 16777216 := sizeLine_eq
  subst hk
  show lstF _ _ _ _ = _
  unfold lstF
  simp only [f.hh, Option.join_some]
  rw [if_pos ⟨by omega, by omega, by omega⟩]
  simp only [Int.toNat_natCast, List.take_length, List.drop_length, List.append_nil, Option.map_some]
end
theorem guard_ok {F : List PV → Sto → R PV} {d : Nat} (hF : FamOk F d 1000 (blim d)) (hd : Bd d ≤ 900) : FamOk (runW 5 10 (body_law_guard F)) d 50 (clim d) := by
  intro ns n r h S ps hs b c dr hr hh hb hc hbd
  have f := FS.start c dr hr hh hb
  refine Pv.W.run rfl (Pv.W.seq (Pv.W.set (flen f rfl (Pv.W.go ?_))))
  refine Pv.W.seq (fsub hF f rfl rfl rfl rfl rfl (by simp; omega) fun S1 new1 rows1 hds1 f1 bk1 lm1 hn1 => Pv.W.go ?_)
  simp only [List.nil_append, List.length_nil, Nat.add_zero] at f1 bk1 lm1
  have lm : ps.length + rows1.length ≤ max (Bd d) 68 := Nat.le_trans lm1 (by unfold blim; omega)
  refine Pv.W.seq (Pv.W.set (flen f1 rfl (Pv.W.go ?_)))
  refine Pv.W.seq (fcell f1 rfl (by omega) (gtup2 (Pv.W.con (Pv.W.con (fline f1 rfl fun l S2 hl f2 => ⟨⟨.jp 0, l⟩, rfl, rfl, f2, fun S3 c1 f3 => Pv.W.go ?_⟩)))))
  refine Pv.W.seq (Pv.W.set (Pv.W.call (Pv.W.cons (Pv.W.var rfl (Pv.W.nil ⟨.int ((hs ++ hds1.map Hnd.pv).length : Nat), S3, lenF_ref f3.hh, Pv.W.go ?_⟩)))))
  refine Pv.W.seq (Pv.W.set (fpickK [none, some "zero", some "unbound", some "oops"] f3 rfl rfl rfl fun o ho S4 f4 => Pv.W.go ?_))
  refine Pv.W.seq (Pv.W.set (flen f4 rfl (Pv.W.go ?_)))
  have l4 : (rows1 ++ [(⟨.jp 0, l⟩ : Rw)]).length = rows1.length + 1 := by simp
  refine Pv.W.seq (fplain f4 rfl rfl (by rw [l4]; omega) fun S5 new2 rows2 f5 hn2 hl2 bk2 => Pv.W.go ?_)
  rw [l4] at bk2
  have f5' : FS ns n r h S ps hs S5 (new1 ++ .ref c1 :: new2) (rows1 ++ ⟨.jp 0, l⟩ :: rows2) hds1 := by simpa using f5
  refine Pv.W.seq (fpatch .jp f5' hn1 rfl rfl (fun t => rfl) fun S6 f6 => Pv.W.go ?_)
  have l6 : ps.length + (rows1 ++ (⟨.jp 0, l⟩ : Rw) :: rows2).length = ps.length + rows1.length + 1 + rows2.length := by simp; omega
  rw [l6] at f6
  have l7 : (rows1 ++ (⟨.jp (ps.length + rows1.length + 1 + rows2.length), l⟩ : Rw) :: rows2).length = rows1.length + 1 + rows2.length := by simp; omega
  have lim : ps.length + (rows1 ++ (⟨.jp (ps.length + rows1.length + 1 + rows2.length), l⟩ : Rw) :: rows2).length ≤ clim d ps.length := by
    rw [l7]
    unfold clim
    omega
  refine Pv.W.ite (Pv.W.bE (Pv.W.cmpI (f := fun i j => decide (i > j)) (Pv.W.var rfl (Pv.W.var rfl ⟨(ps.length + rows1.length : Nat), (ps.length : Nat), rfl, rfl, _, rfl, fun hgt => ?_, fun _ => ?_⟩))))
  · have hpos : 0 < rows1.length := by have := of_decide_eq_true hgt; omega
    let x : Hnd := ⟨ps.length, ps.length + rows1.length, ps.length + rows1.length + 1, b, o⟩
    refine Pv.W.expr (Pv.W.meth (Pv.W.var rfl ⟨by rw [tyP_refD, f6.hh]; rfl, Pv.W.cons (Pv.W.var rfl (Pv.W.cons (Pv.W.tup (Pv.W.cons (Pv.W.var rfl (Pv.W.cons (Pv.W.var rfl (Pv.W.cons (Pv.W.var rfl (Pv.W.cons (Pv.W.var rfl (Pv.W.cons (Pv.W.var rfl (Pv.W.nil ⟨by have : sizeLine = 16777216 := sizeLine_eq; simp; omega, Pv.W.nil ?_⟩))))))))))))))⟩))
    have hz : hds1.length < (rows1 ++ (⟨.jp (ps.length + rows1.length + 1 + rows2.length), l⟩ : Rw) :: rows2).length := by rw [l7]; have := f1.hl; omega
    have e := fins f6 x hz (by rw [l7]; omega) (k := (hs ++ hds1.map Hnd.pv).length) rfl
    refine ⟨.non, _, ?_, ⟨_, _, _, f6.hpush x hz (by show b ≤ 200; omega), ?_, lim⟩⟩
    · rw [← e]
      show insertF _ [_, PV.con .own .tup [_, _, PV.int (ps.length + (rows1 ++ [(⟨.jp 0, l⟩ : Rw)]).length : Nat), _, _]] _ = _
      rw [l4]
      rfl
    · refine Blk.guard (k := o) bk1 (bk2 b) hl fun y hy => ?_
      have hy : y = x := by simpa using hy
      subst hy
      refine ⟨rfl, hpos, ?_⟩
      intro w hw
      have hw : o = some w := hw
      subst hw
      have ho : w ∈ (["zero", "unbound", "oops"] : List Str) := by simpa using ho
      refine ⟨words_ok (l := ["zero", "unbound", "oops"]) (by decide +kernel) ho, ?_⟩
      have : ∀ w ∈ (["zero", "unbound", "oops"] : List Str), ¬ w = "any" := by decide +kernel
      exact this w ho
  · refine Pv.W.next ⟨_, _, _, f6, ?_, lim⟩
    have := Blk.guard (hx := []) (k := none) bk1 (bk2 b) hl fun y hy => by simp at hy
    simpa using this
end Law
/-! G11: bodies; the family; all parts. -/
namespace Law
open PySem PySem.Spec PyProof.Rows L2 Pv
def tcap : Nat → Nat
  | 0 => 59
  | d + 1 => max (Bd d) 75 + 19
def tlim (d m : Nat) : Nat := if 50 < m then m + 9 else tcap d
structure Fams (d : Nat) (Fc Fl Fb Fg : List PV → Sto → R PV) : Prop where
  c : FamOk Fc d 50 (clim d)
  l : FamOk Fl d 50 (clim d)
  b : FamOk Fb d 1000 (blim d)
  g : FamOk Fg d 50 (clim d)
theorem Bd_le : ∀ d, d ≤ 3 → Bd d ≤ 900 := by decide
section
variable {ns : List Int} {n r h : Nat} {S0 S S' : Sto} {ps0 hs0 new : List PV} {rows : List Rw} {hds : List Hnd} {P : RS → Prop}
theorem turn_ok {Fc Fl Fb Fg : List PV → Sto → R PV} {d b : Nat} {x y : Option PV} (hd : d ≤ 3) (H : ∀ e, d = e + 1 → Fams e Fc Fl Fb Fg) (f : FS ns n r h S0 ps0 hs0 S new rows hds) (hc : ps0.length + rows.length < 2000)
    (k : ∀ z S' new' rows' hds', FS ns n r h S0 ps0 hs0 S' new' (rows ++ rows') (hds ++ hds') → Blk b (ps0.length + rows.length) b b rows' hds' → ps0.length + rows.length + rows'.length ≤ tlim d (ps0.length + rows.length) →
      rsP (.nx [some (.ref n), some (.ref r), some (.ref h), some (.int (d : Nat)), some (.int (b : Nat)), x, z] S') P) (hbd : b + d ≤ 100 := by omega) :
    rsP (l1_law_body Fc Fl Fb Fg [some (.ref n), some (.ref r), some (.ref h), some (.int (d : Nat)), some (.int (b : Nat)), x, y] S) P := by
  refine Pv.W.seq (Pv.W.set (fdraw f rfl fun j S1 hj f1 => Pv.W.go ?_))
  have plain : 50 < ps0.length + rows.length ∨ ps0.length + rows.length ≤ 50 → rsP (sExpr (eCallW f_law_plain (aCons (eV 0) (aCons (eV 1) aNil))) [some (.ref n), some (.ref r), some (.ref h), some (.int (d : Nat)), some (.int (b : Nat)), x, some (.int (j : Nat))] S1) P := fun hm => by
    refine fplain f1 rfl rfl (by omega) fun S2 new2 rows2 f2 hn hl bk => ?_
    refine k _ S2 _ rows2 [] (by simpa using f2) (bk b) ?_
    unfold tlim
    split
    · omega
    · have : 59 ≤ tcap d := by cases d with
        | zero => exact Nat.le_refl _
        | succ d => show 59 ≤ max (Bd d) 75 + 19; omega
      omega
  refine Pv.W.ite (Pv.W.or (Pv.W.bE (Pv.W.cmpI (f := fun i j => decide (i > j)) (flen f1 rfl (Pv.W.con ⟨(ps0.length + rows.length : Nat), 50, rfl, rfl, _, rfl, fun _ => ⟨fun _ => plain (by omega), fun h => (by cases h)⟩, fun hm => ?_⟩)))))
  have hm : ps0.length + rows.length ≤ 50 := by have := of_decide_eq_false hm; omega
  refine Pv.W.or (Pv.W.bE (Pv.W.eqI (Pv.W.var rfl (Pv.W.con ⟨(d : Nat), 0, rfl, rfl, _, rfl, fun _ => ⟨fun _ => plain (by omega), fun h => (by cases h)⟩, fun h0 => ?_⟩))))
  have h0 : d ≠ 0 := by have := of_decide_eq_false h0; omega
  refine Pv.W.bE (Pv.W.cmpI (f := fun i j => decide (i ≤ j)) (Pv.W.var rfl (Pv.W.con ⟨(j : Nat), 3, rfl, rfl, _, rfl, fun _ => plain (by omega), fun _ => ?_⟩)))
  obtain ⟨e, rfl⟩ : ∃ e, d = e + 1 := ⟨d - 1, by omega⟩
  have F := H e rfl
  have lim : ∀ m, m ≤ clim e (ps0.length + rows.length) → m ≤ tlim (e + 1) (ps0.length + rows.length) := fun m hq => by
    unfold tlim
    rw [if_neg (by omega)]
    exact hq
  have sub1 : ∀ (Γ : Gam) (S : Sto), Γ[3]? = some (some (.int (e + 1 : Nat))) → eOp subF (eV 3) (eC (.int 1)) Γ S = .ok (.int (e : Nat)) S := fun Γ S q => by
    have : eV 3 Γ S = .ok (.int (e + 1 : Nat)) S := by unfold eV; rw [q]
    unfold eOp
    rw [this]
    show R.ok (PV.int _) S = _
    congr 2
    omega
  refine Pv.W.iteEq (x := j) (y := 4) rfl (fun _ => ?_) fun _ => Pv.W.iteEq (x := j) (y := 5) rfl (fun _ => ?_) fun _ => Pv.W.iteEq (x := j) (y := 6) rfl (fun _ => ?_) fun _ => ?_
  · exact fsub F.c f1 rfl rfl rfl (sub1 _ _ rfl) rfl hm fun S2 new2 rows2 hds2 f2 bk lm hn => k _ S2 _ rows2 hds2 f2 bk (lim _ lm)
  · exact fsub F.l f1 rfl rfl rfl (sub1 _ _ rfl) rfl hm fun S2 new2 rows2 hds2 f2 bk lm hn => k _ S2 _ rows2 hds2 f2 bk (lim _ lm)
  · refine Pv.W.seq (frow f1 rfl (by omega) (growW (gtup2 (Pv.W.con (Pv.W.callW (Pv.W.cons (Pv.W.var rfl (Pv.W.nil (gnumber f1.gs fun v S2 v0 v1 g2 => fline (f1.back0 g2) rfl fun l S3 hl f3 => ⟨⟨.c v, l⟩, rfl, f3, fun S4 new4 f4 => Pv.W.go ?_⟩)))))))))
    have l4 : (rows ++ [(⟨.c v, l⟩ : Rw)]).length = rows.length + 1 := by simp
    refine Pv.W.seq (fsub (b := b + 1) F.b f4 rfl rfl rfl (sub1 _ _ rfl) rfl (by rw [l4]; omega) fun S5 new5 rows5 hds5 f5 bk5 lm5 hn5 => Pv.W.go ?_)
    rw [l4] at bk5 lm5
    have lm5' : ps0.length + rows.length + 1 + rows5.length ≤ max (Bd e) 69 := Nat.le_trans (by omega) (Nat.le_trans lm5 (by unfold blim; omega))
    have be := Bd_le e (by omega)
    have l5 : (rows ++ [(⟨.c v, l⟩ : Rw)] ++ rows5).length = rows.length + 1 + rows5.length := by simp; omega
    refine frow f5 rfl (by rw [l5]; omega) (growW ?_)
    refine gpick (vs := [(Itr.op .pop).pv, (Itr.op .print).pv]) f5.gs (by simp [Itr.pv, Opc.name, szl]) rfl rfl (fun w hw S6 g6 => ?_)
    obtain ⟨o, ho, rfl⟩ : ∃ o : Opc, (o = .pop ∨ o = .print) ∧ w = (Itr.op o).pv := by
      simp only [List.mem_cons, List.not_mem_nil, or_false] at hw
      rcases hw with rfl | rfl
      · exact ⟨.pop, Or.inl rfl, rfl⟩
      · exact ⟨.print, Or.inr rfl, rfl⟩
    refine fline (f5.back0 g6) rfl fun l2 S7 hl2 f7 => ⟨⟨.op o, l2⟩, rfl, f7, fun S8 new8 f8 => ?_⟩
    refine k _ S8 _ (⟨.c v, l⟩ :: rows5 ++ [⟨.op o, l2⟩]) hds5 (by simpa using f8) ?_ ?_
    · have b1 : Blk b (ps0.length + rows.length) b (b + 1) [⟨.c v, l⟩] [] := Blk.one ⟨⟨v0, v1⟩, hl⟩ (Nat.zero_le _) rfl rfl rfl (Nat.le_refl _)
      have b2 := b1.app ((bk5.floor (Nat.le_succ b)).app (blk_pop1 ho hl2 _ b))
      simpa using b2
    · refine lim _ ?_
      unfold clim
      simp
      omega
  · exact fsub F.g f1 rfl rfl rfl (sub1 _ _ rfl) rfl hm fun S2 new2 rows2 hds2 f2 bk lm hn => k _ S2 _ rows2 hds2 f2 bk (lim _ lm)
end
end Law
/-! G12: bodies of every depth. -/
namespace Pv
open PySem PySem.Spec PyProof.Rows L2
section
variable {Γ : Gam} {S : Sto} {P : RS → Prop} {t : SF} {as : AF} {i : Nat} {p : PV} {ps : List PV}
theorem W.forR1 (h : okR (as Γ S) fun vs S1 => ∃ m : Nat, vs = [.int (m : Nat)] ∧ m < 1000000 ∧ rsP (forL (sTurn (gN i) t) (intsF 0 m) Γ S1) P) : rsP (sFor (iR1 as) (gN i) t Γ S) P := by
  obtain ⟨vs, S1, e, m, e2, hm, q⟩ := h.eq
  subst e2
  rw [sFor_eq, iR1_eq, e, r1K_ok ⟨by omega, by omega⟩, forK_L]
  simpa using q
theorem W.forN {b : PV → SF} (h : rsP (.nx Γ S) P) : rsP (forL b [] Γ S) P := h
def forP (t : SF) (i : Nat) (ps : List PV) (P : RS → Prop) : RS → Prop
  | .nx Γ S => rsP (forL (sTurn (gN i) t) ps Γ S) P
  | .ct Γ S => rsP (forL (sTurn (gN i) t) ps Γ S) P
  | .bk Γ S => P (.nx Γ S)
  | r => P r
theorem W.forC (h : rsP (t (Γ.set i (some p)) S) (forP t i ps P)) : rsP (forL (sTurn (gN i) t) (p :: ps) Γ S) P := by
  unfold rsP at *
  have e : sTurn (gN i) t p Γ S = t (Γ.set i (some p)) S := rfl
  unfold forL
  rw [e]
  cases q : t (Γ.set i (some p)) S with
  | nx Γ1 S1 => rw [q] at h; exact h
  | ct Γ1 S1 => rw [q] at h; exact h
  | bk Γ1 S1 => rw [q] at h; exact h
  | rt v S1 => rw [q] at h; exact h
  | ex c fs Γ1 S1 => rw [q] at h; exact h
  | bad => rw [q] at h; exact h
theorem W.forG (h : rsP (forL (sTurn (gN i) t) ps Γ S) P) : rsP (.nx Γ S) (forP t i ps P) := h
end
end Pv
namespace Law
open PySem PySem.Spec PyProof.Rows L2 Pv
theorem body_ok {Fc Fl Fb Fg : List PV → Sto → R PV} {d : Nat} (hd : d ≤ 3) (H : ∀ e, d = e + 1 → Fams e Fc Fl Fb Fg) : FamOk (runW 5 7 (body_law_body Fc Fl Fb Fg)) d 1000 (blim d) := by
  intro ns n r h S ps hs b c dr hr hh hb hc hbd
  have f := FS.start c dr hr hh hb
  refine Pv.W.run rfl (Pv.W.forR1 (Pv.W.cons (fdraw f rfl fun j S1 hj f1 => Pv.W.nil ⟨j, rfl, by omega, ?_⟩)))
  have tc : tcap d + 9 = Bd d := by cases d <;> rfl
  have t1 : ∀ m, tlim d m ≤ blim d m := fun m => by unfold tlim blim; split <;> omega
  have t2 : ∀ m k, k ≤ tlim d m → tlim d k ≤ blim d m := fun m k hk => by
    unfold tlim at *
    unfold blim
    split at hk <;> split <;> omega
  have hbl : ∀ m, m ≤ 1000 → blim d m < 2000 := fun m hm => by have := Bd_le d hd; unfold blim; omega
  have h2 : j = 0 ∨ j = 1 ∨ j = 2 := by omega
  rcases h2 with rfl | rfl | rfl
  · exact Pv.W.forN ⟨_, _, _, f1, Blk.nil, by unfold blim; simp; omega⟩
  · refine Pv.W.forC (turn_ok hd H f1 (by simp; omega) fun z S2 new2 rows2 hds2 f2 bk2 lm2 => Pv.W.forG (Pv.W.forN ?_))
    simp only [List.nil_append, List.length_nil, Nat.add_zero] at f2 bk2 lm2
    exact ⟨_, _, _, f2, bk2, Nat.le_trans lm2 (t1 _)⟩
  · refine Pv.W.forC (turn_ok hd H f1 (by simp; omega) fun z S2 new2 rows2 hds2 f2 bk2 lm2 => Pv.W.forG ?_)
    simp only [List.nil_append, List.length_nil, Nat.add_zero] at f2 bk2 lm2
    refine Pv.W.forC (turn_ok hd H f2 (by have := t1 ps.length; have := hbl ps.length hc; omega) fun z S3 new3 rows3 hds3 f3 bk3 lm3 => Pv.W.forG (Pv.W.forN ?_))
    refine ⟨_, _, _, f3, bk2.app bk3, ?_⟩
    rw [List.length_append]
    have := t2 ps.length (ps.length + rows2.length) lm2
    omega
theorem bodies : ∀ (d : Nat), d ≤ 3 → ∀ fuel, 2 * d + 1 ≤ fuel → FamOk (f_law_body fuel) d 1000 (blim d)
  | 0, hd, fuel, hf => by
    obtain ⟨k, rfl⟩ : ∃ k, fuel = k + 1 := ⟨fuel - 1, by omega⟩
    rw [f_law_body_s]
    exact body_ok hd fun e he => by omega
  | d + 1, hd, fuel, hf => by
    obtain ⟨k, rfl⟩ : ∃ k, fuel = k + 1 + 1 := ⟨fuel - 2, by omega⟩
    rw [f_law_body_s]
    have ih := bodies d (by omega)
    have be := Bd_le d (by omega)
    refine body_ok hd fun e he => ?_
    obtain rfl : d = e := by omega
    refine ⟨?_, ?_, ih _ (by omega), ?_⟩
    · rw [f_law_choice_s]; exact choice_ok (ih _ (by omega)) be
    · rw [f_law_loop_s]; exact loop_ok (ih _ (by omega)) be
    · rw [f_law_guard_s]; exact guard_ok (ih _ (by omega)) be
end Law
/-! G13: all parts of a small program. -/
namespace Pv
open PySem PySem.Spec PyProof.Rows L2
theorem lcI_still {st : Stp} {gt : GF} {tt : BF} {te : EF} {Γ : Gam} {S : Sto} {ps vs : List PV} (hs : ∀ i : Nat, st S i = some ps[i]?) (hl : vs.length = ps.length) (hz : ps.length ≤ sizeLine)
    (h : ∀ (i : Nat) (p : PV), ps[i]? = some p → ∃ Γ1 v, vs[i]? = some v ∧ gt p Γ S = .ok Γ1 S ∧ tt Γ1 S = .ok true S ∧ te Γ1 S = .ok v S) : ∀ k i, i + k = ps.length → lcI st gt tt te Γ (k + 1) i (vs.take i) S = .ok vs S
  | 0, i, e => by
    unfold lcI
    rw [hs, List.getElem?_eq_none (by omega)]
    show R.ok (vs.take i) S = _
    rw [List.take_of_length_le (by omega)]
  | k + 1, i, e => by
    have hi : i < ps.length := by omega
    obtain ⟨Γ1, v, h1, h2, h3, h4⟩ := h i ps[i] (List.getElem?_eq_getElem hi)
    have hlen : (vs.take i).length < sizeLine := by rw [List.length_take]; omega
    have ih := lcI_still hs hl hz h k (i + 1) (by omega)
    unfold lcI
    rw [hs, List.getElem?_eq_getElem hi]
    simp only [h2, h3, h4]
    rw [if_pos hlen]
    have e2 : vs.take i ++ [v] = vs.take (i + 1) := by
      rw [List.take_succ, h1]
      rfl
    rw [e2]
    exact ih
section
variable {Γ : Gam} {S : Sto} {te : EF} {i j r : Nat} {ps vs : List PV} {Q : PV → Sto → Prop}
theorem W.lcR (hj : Γ[j]? = some (some (.ref r))) (hr : S[r]? = some (some (.lst, ps))) (hl : vs.length = ps.length) (hz : ps.length ≤ sizeLine)
    (h : ∀ (k : Nat) (p : PV), ps[k]? = some p → ∃ v, vs[k]? = some v ∧ te ((Γ.set i none).set i (some p)) S = .ok v S) (q : Q (.ref S.length) (S ++ [some (.lst, vs)])) : okR (eLc true (iAny (eV j)) (gN i) bYes te [i] Γ S) Q := by
  have e0 : iAny (eV j) Γ S = .ok (stR r, ps.length + 1) S := by
    have : eV j Γ S = .ok (.ref r) S := by unfold eV; rw [hj]
    unfold iAny
    rw [this]
    show (match walkB S (.ref r) with | some q => R.ok q S | none => .bad) = _
    unfold walkB
    simp only [hr, Option.join_some]
  have e1 : lcI (stR r) (gN i) bYes te (wipeG Γ [i]) (ps.length + 1) 0 [] S = .ok vs S := by
    have := lcI_still (st := stR r) (gt := gN i) (tt := bYes) (te := te) (Γ := wipeG Γ [i]) (S := S) (ps := ps) (vs := vs) (fun k => by unfold stR; simp only [hr, Option.join_some]) hl hz (fun k p hp => by
      obtain ⟨v, h1, h2⟩ := h k p hp
      exact ⟨_, v, h1, rfl, rfl, h2⟩) ps.length 0 (by omega)
    simpa using this
  unfold eLc
  rw [e0]
  show okR ((lcI (stR r) (gN i) bYes te (wipeG Γ [i]) (ps.length + 1) 0 [] S).bind _) Q
  rw [e1]
  exact q
end
end Pv
namespace Law
open PySem PySem.Spec PyProof.Rows L2 Pv
/-- a whole program: depths from 0 on agree, targets are places, the last row does not go on -/
structure Prog (rows : List Rw) (hds : List Hnd) : Prop where
  len : rows.length ≤ 199
  pos : 0 < rows.length
  dep : ∃ D : Nat → Nat, D 0 = 0 ∧ Sg 0 (rows.length - 1) 0 rows hds D
  last : ∃ r, rows[rows.length - 1]? = some r ∧ r.i.last = true
theorem HndOk.rel {lo hi lo' hi' : Nat} {D D' : Nat → Nat} {x : Hnd} (h : HndOk lo hi D x) (h1 : lo' ≤ lo) (h2 : hi ≤ hi') (e : ∀ i, lo ≤ i → i ≤ hi → D' i = D i) : HndOk lo' hi' D' x := h.mono h1 h2 e
theorem Prog.one {rows : List Rw} {hds : List Hnd} {l : Nat} (B : Blk 0 0 0 0 rows hds) (hl : l ≤ 1000000) (hn : rows.length ≤ 195) : Prog (rows ++ [⟨.op .stop, l⟩]) hds := by
  obtain ⟨D, s, d1, d2, d3⟩ := B
  have le : (rows ++ [(⟨.op .stop, l⟩ : Rw)]).length = rows.length + 1 := by simp
  refine ⟨by omega, by omega, ⟨D, d1, ?_⟩, ⟨⟨.op .stop, l⟩, by rw [le]; simp, rfl⟩⟩
  rw [le]
  have k : Sg 0 rows.length 0 (rows ++ [⟨.op .stop, l⟩]) (hds ++ []) D := (Sg.of s (Nat.le_refl _) (by omega) fun _ _ _ => rfl).app (Sg.one ⟨⟨trivial, hl⟩, Nat.zero_le _, fun z => (by cases z), fun t z => (by cases z), trivial⟩)
  simpa using k
def deadR : List Rw := [⟨.c 5, 2⟩, ⟨.op .print, 3⟩, ⟨.jp 0, 0⟩]
theorem Prog.dead {rows : List Rw} {hds : List Hnd} {l : Nat} (B : Blk 0 0 0 0 rows hds) (hl : l ≤ 1000000) (hn : rows.length ≤ 195) : Prog (rows ++ [⟨.op .stop, l⟩] ++ deadR) hds := by
  obtain ⟨D, s, d1, d2, d3⟩ := B
  have le : (rows ++ [(⟨.op .stop, l⟩ : Rw)] ++ deadR).length = rows.length + 4 := by simp [deadR]
  let E : Nat → Nat := fun i => if i ≤ rows.length then D i else if i = rows.length + 2 then 1 else 0
  have e1 : ∀ i, i ≤ rows.length → E i = D i := fun i h => if_pos h
  have e2 : E (rows.length + 1) = 0 := by show (if _ then _ else _) = _; rw [if_neg (by omega), if_neg (by omega)]
  have e3 : E (rows.length + 2) = 1 := by show (if _ then _ else _) = _; rw [if_neg (by omega), if_pos rfl]
  have e4 : E (rows.length + 3) = 0 := by show (if _ then _ else _) = _; rw [if_neg (by omega), if_neg (by omega)]
  have e0 : E 0 = 0 := (e1 0 (by omega)).trans d1
  refine ⟨by omega, by omega, ⟨E, e0, ?_⟩, ⟨⟨.jp 0, 0⟩, ?_, rfl⟩⟩
  · rw [le]
    have k : Sg 0 (rows.length + 3) 0 (rows ++ ⟨.op .stop, l⟩ :: deadR) (hds ++ []) E := by
      refine (Sg.of s (Nat.le_refl _) (by omega) fun i _ h => e1 i (by omega)).app ?_
      rw [Nat.zero_add]
      refine Sg.cons (r := ⟨.op .stop, l⟩) ⟨⟨trivial, hl⟩, Nat.zero_le _, fun z => (by cases z), fun t z => (by cases z), trivial⟩ ?_
      refine Sg.cons (r := ⟨.c 5, 2⟩) ⟨⟨⟨by decide, by decide⟩, by decide⟩, Nat.zero_le _, fun _ => ?_, fun t z => (by cases z), trivial⟩ ?_
      · rw [e3, e2]; rfl
      refine Sg.cons (r := ⟨.op .print, 3⟩) ⟨⟨trivial, by decide⟩, ?_, fun _ => ?_, fun t z => (by cases z), trivial⟩ ?_
      · rw [e3]; exact Nat.le_refl _
      · rw [e4, e3]; rfl
      refine Sg.cons (r := ⟨.jp 0, 0⟩) ⟨⟨trivial, by decide⟩, Nat.zero_le _, fun z => (by cases z), fun t z => ?_, trivial⟩ ⟨fun i r q => by simp at q, fun x q => by simp at q⟩
      cases z
      exact ⟨Nat.le_refl _, Nat.zero_le _, by rw [e0, e4]; rfl⟩
    simpa using k
  · rw [le]
    rw [List.getElem?_append_right (by simp)]
    simp [deadR]
end Law
/-! G14: law_parts. -/
namespace Law
open PySem PySem.Spec PyProof.Rows L2 Pv
section
variable {ns : List Int} {n r h : Nat} {S0 S S' : Sto} {ps0 hs0 new : List PV} {rows : List Rw} {hds : List Hnd} {Γ : Gam} {i : Nat} {Q : PV → Sto → Prop} {P : RS → Prop} {t u : SF} {as : AF}
theorem fif (f : FS ns n r h S0 ps0 hs0 S new rows hds) {m y : Int} (hi : Γ[i]? = some (some (.ref n))) (h1 : ∀ S', FS ns n r h S0 ps0 hs0 S' new rows hds → rsP (t Γ S') P) (h2 : ∀ S', FS ns n r h S0 ps0 hs0 S' new rows hds → rsP (u Γ S') P) (hm : 0 < m := by decide) (hm2 : m < 1073741824 := by decide) :
    rsP (sIf (bE (eOp eqF (eCallW f_law_draw (aCons (eV i) (aCons (eC (.int m)) aNil))) (eC (.int y)))) t u Γ S) P := gif f.gs hi (fun S' g => h1 S' (f.back0 g)) (fun S' g => h2 S' (f.back0 g)) hm hm2
/-- the parts of a row are read -/
theorem RWs.read {lo : Nat} {ps : List PV} (w : RWs lo S ps rows) (k : Nat) (f : Rw → PV) (hk : (k = 0 ∧ f = fun r => r.i.pv) ∨ (k = 1 ∧ f = fun r => .int r.l)) (j : Nat) (p : PV) (hp : ps[j]? = some p) : ∃ v, (rows.map f)[j]? = some v ∧ ixB S p (.int (k : Nat)) = some v := by
  have hj := (List.getElem?_eq_some_iff.mp hp).1
  obtain ⟨x, hx⟩ : ∃ x, rows[j]? = some x := ⟨rows[j]'(by rw [← w.len]; exact hj), List.getElem?_eq_getElem _⟩
  refine ⟨f x, by rw [List.getElem?_map, hx]; rfl, ?_⟩
  rcases w.at_ j p x hp hx with rfl | ⟨c, rfl, _, q⟩
  · rcases hk with ⟨rfl, rfl⟩ | ⟨rfl, rfl⟩ <;> rfl
  · rw [ixB_ref q]
    rcases hk with ⟨rfl, rfl⟩ | ⟨rfl, rfl⟩ <;> rfl
structure Parts (ns : List Int) (n : Nat) (S0 : Sto) (v : PV) (S' : Sto) : Prop where
  ex : ∃ (rows : List Rw) (hds : List Hnd) (c l h z : Nat), v = .ref z ∧ S'[z]? = some (some (.lst, [.ref c, .ref l, .ref h])) ∧ S'[c]? = some (some (.lst, rows.map fun r => r.i.pv)) ∧ S'[l]? = some (some (.lst, rows.map fun r => .int r.l)) ∧ S'[h]? = some (some (.lst, hds.map Hnd.pv)) ∧
    DR n ns S' ∧ Prog rows hds ∧ n < h ∧ h < c ∧ c < l ∧ l < z ∧ z < S'.length ∧ hds.length ≤ rows.length ∧ (∀ x ∈ hds, x.d ≤ 200) ∧ S0.length ≤ h ∧ ∀ i, i < S0.length → i ≠ n → S'[i]? = S0[i]?
theorem parts_end {x : Option PV} {n r h : Nat} (f : FS ns n r h S0 [] [] S new rows hds) (pr : Prog rows hds) (hn : n < r) (hr : r < h) {S00 : Sto} (hz0 : S00.length = r) (h00 : ∀ i, i < r → S0[i]? = S00[i]?) :
    rsP (r2_law_parts [some (.ref n), some (.ref r), some (.ref h), x, none, none, none] S) fun res => match res with
      | .nx _ S' => Parts ns n S00 .non S'
      | .rt v S' => Parts ns n S00 v S'
      | _ => False := by
  have z : sizeLine = 16777216 := sizeLine_eq
  have hl := f.rws.len
  have pl := pr.len
  have f0 := f.rw_
  simp only [List.nil_append] at f0
  have hlt : h < S.length := (List.getElem?_eq_some_iff.mp f.hh).1
  refine Pv.W.seq (Pv.W.set (Pv.W.lcR (vs := rows.map fun r => r.i.pv) rfl f0 (by rw [List.length_map, hl]) (by omega) (fun j p hp => ?_) (Pv.W.go ?_)))
  · obtain ⟨v, h1, h2⟩ := f.rws.read 0 (fun r => r.i.pv) (Or.inl ⟨rfl, rfl⟩) j p hp
    refine ⟨v, h1, ?_⟩
    show R.of ((ixB S p (.int (0 : Nat))).map _) = _
    rw [h2]
    rfl
  have k1 : RWs S0.length (S ++ [some (Kd.lst, rows.map fun r => r.i.pv)]) new rows := f.rws.keep fun c _ hc => List.getElem?_append_left hc
  refine Pv.W.seq (Pv.W.set (Pv.W.lcR (r := r) (ps := new) (vs := rows.map fun r => .int r.l) rfl (by rw [List.getElem?_append_left (by omega)]; exact f0) (by rw [List.length_map, hl]) (by omega) (fun j p hp => ?_) (Pv.W.go ?_)))
  · obtain ⟨v, h1, h2⟩ := k1.read 1 (fun r => .int r.l) (Or.inr ⟨rfl, rfl⟩) j p hp
    refine ⟨v, h1, ?_⟩
    show R.of ((ixB _ p (.int (1 : Nat))).map _) = _
    rw [h2]
    rfl
  refine Pv.W.ret (Pv.W.lstT (Pv.W.cons (Pv.W.var rfl (Pv.W.cons (Pv.W.var rfl (Pv.W.cons (Pv.W.var rfl (Pv.W.nil ⟨by simp; omega, ?_⟩))))))))
  obtain ⟨a, b, s, e, h0⟩ := f.dr
  have ln : n < S.length := by omega
  refine ⟨rows, hds, S.length, S.length + 1, h, S.length + 2, by simp, ?_, ?_, ?_, ?_, ⟨a, b, s, ?_, h0⟩, pr, by omega, by omega, by omega, by omega, by simp, f.hl, f.hB, by omega, fun i hi hin => ?_⟩
  · simp [List.getElem?_append]
  · simp [List.getElem?_append]
  · simp [List.getElem?_append]
  · rw [List.getElem?_append_left (by simp; omega), List.getElem?_append_left (by simp; omega), List.getElem?_append_left (by omega)]
    simpa using f.hh
  · rw [List.getElem?_append_left (by simp; omega), List.getElem?_append_left (by simp; omega), List.getElem?_append_left (by omega)]
    exact e
  · have l0 := f.c.r0
    rw [List.getElem?_append_left (by simp; omega), List.getElem?_append_left (by simp; omega), List.getElem?_append_left (by omega)]
    rw [f.fr i (by omega) hin (by omega) (by omega)]
    exact h00 i (by omega)
theorem bodies_loop {n r h : Nat} : ∀ (qs : List PV) (S : Sto) (new : List PV) (rows : List Rw) (hds : List Hnd) (x : Option PV), qs.length ≤ 3 → FS ns n r h S0 [] [] S new rows hds → Blk 0 0 0 0 rows hds → rows.length ≤ 195 - 18 * qs.length →
    (∀ x S' new rows hds, FS ns n r h S0 [] [] S' new rows hds → Blk 0 0 0 0 rows hds → rows.length ≤ 195 → rsP (.nx [some (.ref n), some (.ref r), some (.ref h), x, none, none, none] S') P) →
    rsP (forL (sTurn (gN 3) l0_law_parts) qs [some (.ref n), some (.ref r), some (.ref h), x, none, none, none] S) P
  | [], S, new, rows, hds, x, _, f, bk, hl, k => Pv.W.forN (k x S new rows hds f bk (by simpa using hl))
  | q :: qs, S, new, rows, hds, x, hq, f, bk, hl, k => by
    simp only [List.length_cons] at hq hl
    refine Pv.W.forC ?_
    refine fsub (b := 0) (bodies 3 (Nat.le_refl _) 10 (by decide)) f rfl rfl rfl rfl rfl (by simp; omega) fun S' new' rows' hds' f' bk' lm hn => Pv.W.forG ?_
    simp only [List.length_nil, Nat.zero_add] at bk' lm
    have lm : rows.length + rows'.length ≤ max 159 (rows.length + 18) := lm
    refine bodies_loop qs S' _ _ _ _ (by omega) f' (Blk.app bk (by rw [Nat.zero_add]; exact bk')) ?_ k
    rw [List.length_append]
    omega
theorem parts_ok {n : Nat} (d : DR n ns S) (hn : n < S.length) : okR (f_law_parts [.ref n] S) (Parts ns n S) := by
  have z : sizeLine = 16777216 := sizeLine_eq
  unfold f_law_parts
  refine Pv.W.run rfl (Pv.W.seq (Pv.W.set (Pv.W.lstT (Pv.W.nil ⟨Nat.zero_le _, Pv.W.go ?_⟩))))
  refine Pv.W.seq (Pv.W.set (Pv.W.lstT (Pv.W.nil ⟨Nat.zero_le _, Pv.W.go ?_⟩)))
  obtain ⟨a, b, s, e, h0⟩ := d
  have f : FS ns n S.length (S.length + 1) (S ++ [some (.lst, [])] ++ [some (.lst, [])]) [] [] (S ++ [some (.lst, [])] ++ [some (.lst, [])]) [] [] [] := by
    refine FS.start ⟨by omega, by omega, by omega, by simp; omega, by simp, by simp⟩ ⟨a, b, s, ?_, h0⟩ ?_ ?_ (Nat.le_refl _)
    · rw [List.getElem?_append_left (by simp; omega), List.getElem?_append_left hn]; exact e
    · simp [List.getElem?_append]
    · simp [List.getElem?_append]
  have e2 : (S ++ [some (Kd.lst, ([] : List PV))]).length = S.length + 1 := by simp
  have h00 : ∀ i, i < S.length → (S ++ [some (Kd.lst, ([] : List PV))] ++ [some (Kd.lst, ([] : List PV))])[i]? = S[i]? := fun i hi => by
    rw [List.getElem?_append_left (by simp; omega), List.getElem?_append_left hi]
  refine Pv.W.seq (Pv.W.forR1 (Pv.W.cons (Pv.W.op (Pv.W.con (fdraw f rfl fun j S1 hj f1 => ⟨.int (1 + j : Nat), S1, ?_, Pv.W.nil ⟨1 + j, rfl, by omega, ?_⟩⟩)))))
  · show some (PV.int _, S1) = some (PV.int _, S1)
    congr 3
  rw [e2]
  refine bodies_loop _ S1 [] [] [] _ (by rw [intsF_len]; omega) f1 Blk.nil (by simp) fun x S2 new2 rows2 hds2 f2 bk2 lm2 => Pv.W.go ?_
  have lm2' : ([] : List PV).length + rows2.length < 1000 := by simp; omega
  refine Pv.W.seq (frow f2 rfl (by omega) (growW (gtup1 (Pv.W.con (fline f2 rfl fun l S3 hl f3 => ⟨⟨.op .stop, l⟩, rfl, f3, fun S4 new4 f4 => Pv.W.go ?_⟩)))))
  have l4 : (rows2 ++ [(⟨.op .stop, l⟩ : Rw)]).length = rows2.length + 1 := by simp
  refine Pv.W.seq (fif f4 rfl (fun S5 f5 => ?_) fun S5 f5 => Pv.W.next (Pv.W.go (parts_end f5 (Prog.one bk2 hl lm2) hn (by omega) rfl h00)))
  refine Pv.W.seq (frow f5 rfl (by simp; omega) (growW (gtup2 (Pv.W.con (Pv.W.con (Pv.W.con ⟨⟨.c 5, 2⟩, rfl, f5, fun S6 new6 f6 => Pv.W.go ?_⟩))))))
  refine Pv.W.seq (frow f6 rfl (by simp; omega) (growW (gtup1 (Pv.W.con (Pv.W.con ⟨⟨.op .print, 3⟩, rfl, f6, fun S7 new7 f7 => Pv.W.go ?_⟩)))))
  refine frow f7 rfl (by simp; omega) (growW (gtup2 (Pv.W.con (Pv.W.con (Pv.W.con ⟨⟨.jp 0, 0⟩, rfl, f7, fun S8 new8 f8 => Pv.W.go ?_⟩)))))
  exact parts_end (rows := rows2 ++ [⟨.op .stop, l⟩] ++ deadR) (by simpa [deadR] using f8) (Prog.dead bk2 hl lm2) hn (by omega) rfl h00
end
end Law
/-! G15: what the checks say of good instructions. -/
namespace Pv
open PySem PySem.Spec PyProof.Rows L2
section
variable {Γ : Gam} {S : Sto} {as : AF} {Q : PV → Sto → Prop}
/-- a def that only reads -/
theorem W.rdP {np n : Nat} {body : SF} {args : List PV} {v : PV} (hl : args.length = np) (h : rsP (body (args.map some ++ List.replicate (n - args.length) none) []) fun r => ∃ u S, r = .rt u S ∧ resP S u = .ok v) : runP np n body args = .ok v := by
  obtain ⟨u, S, e, q⟩ := h
  unfold runP
  rw [if_pos hl, e]
  exact q
theorem W.clP {f : List PV → RP} (h : okR (as Γ S) fun vs S1 => ∃ qs v, vs.mapM (lendV S1) = some qs ∧ f qs = .ok v ∧ Q v S1) : okR (eCallP f as Γ S) Q := by
  obtain ⟨vs, S1, e, qs, v, e2, e3, q⟩ := h.eq
  unfold eCallP
  rw [e]
  show okR (match vs.mapM (lendV S1) with
    | some qs => match f qs with
      | .ok v => R.ok v S1
      | .ex c fs => .ex c fs S1
      | .bad => .bad
    | none => .bad) Q
  rw [e2]
  show okR (match f qs with
      | .ok v => R.ok v S1
      | .ex c fs => .ex c fs S1
      | .bad => .bad) Q
  rw [e3]
  exact q
theorem W.iteF {s : BF} {t u : SF} {P : RS → Prop} {S1 : Sto} (e : s Γ S = .ok false S1) (h : rsP (u Γ S1) P) : rsP (sIf s t u Γ S) P := W.ite (okR.of e ⟨fun h => (by cases h), fun _ => h⟩)
theorem W.iteT {s : BF} {t u : SF} {P : RS → Prop} {S1 : Sto} (e : s Γ S = .ok true S1) (h : rsP (t Γ S1) P) : rsP (sIf s t u Γ S) P := W.ite (okR.of e ⟨fun _ => h, fun h => (by cases h)⟩)
end
end Pv
namespace Law
open PySem PySem.Spec PyProof.Rows L2 Pv
theorem in_range_ok {n a b : Int} (h0 : a ≤ n) (h1 : n ≤ b) : f_in_range [.int n, .int a, .int b] = .ok (.bl true) := by
  unfold f_in_range
  rw [runP_eq (np := 3) rfl]
  simp [body_in_range, szl, h0, h1, resP, frzV, clean]
theorem fits_c {n : Int} (h0 : -1000000000000000000000000000000 ≤ n) (h1 : n ≤ 1000000000000000000000000000000) : f_fits_form [.con .own .tup [.str "const", .int n]] = .ok (.bl true) :=
  Pv.W.rdP rfl (Pv.W.seq (Pv.W.iteF (S1 := []) rfl (Pv.W.next (Pv.W.go (Pv.W.seq (Pv.W.iteF (S1 := []) rfl (Pv.W.next (Pv.W.go (Pv.W.seq (Pv.W.iteT (S1 := []) rfl (Pv.W.ret (Pv.W.clP (okR.of (v := [.int n, .int (-1000000000000000000000000000000), .int 1000000000000000000000000000000]) (S := []) rfl ⟨_, _, rfl, in_range_ok h0 h1, _, _, rfl, rfl⟩)))))))))))))
theorem fits_j {s : Str} {t : Nat} (hs : s = "jump" ∨ s = "jumpif") : f_fits_form [.con .own .tup [.str s, .int (t : Nat)]] = .ok (.bl true) := by
  have e : f_fits_form [.con .own .tup [.str s, .int (t : Nat)]] = .ok (.bl (decide ((t : Int) ≥ 0))) := by
    rcases hs with rfl | rfl <;> rfl
  rw [e, decide_eq_true (by omega)]
theorem letters_all : c_LETTERS.cps.toList = List.range' 97 26 := by decide +kernel
theorem word_loop : ∀ (cs : List Nat) (v x : Option PV), (∀ c ∈ cs, 97 ≤ c ∧ c ≤ 122) → rsP (forL (sTurn (gN 1) l0_is_word) (cs.map fun c => PV.str ⟨#[c]⟩) [v, x] []) (thenS r1_is_word fun r => ∃ u S, r = .rt u S ∧ resP S u = .ok (.bl true))
  | [], v, x, _ => Pv.W.forN (Pv.W.go (Pv.W.ret (Pv.W.con ⟨_, _, rfl, rfl⟩)))
  | c :: cs, v, x, h => by
    refine Pv.W.forC (Pv.W.iteF (S1 := []) ?_ (Pv.W.next (Pv.W.forG (word_loop cs v _ fun c hc => h c (List.mem_cons_of_mem _ hc)))))
    show R.ok (!decide (c ∈ c_LETTERS.cps.toList)) ([] : Sto) = _
    have := h c List.mem_cons_self
    rw [decide_eq_true (by rw [letters_all, List.mem_range'_1]; omega)]
    rfl
theorem is_word_ok {w : Str} (h : WdOk w) : f_is_word [.str w] = .ok (.bl true) := by
  obtain ⟨h1, h2, h3⟩ := h
  have hl : w.length = w.cps.toList.length := (Array.length_toList (xs := w.cps)).symm
  have hz : w.length ≤ sizeLine := by have : sizeLine = 16777216 := sizeLine_eq; omega
  have hn : lenF [.str w] [] = some (.int (w.length : Nat), []) := if_pos hz
  have hch : eChain leF leF (eC (.int 1)) (eCall lenF (aCons (eV 0) aNil)) (eC (.int 8)) [some (.str w), none] [] = .ok (.bl true) [] := by
    show ((R.of (lenF [.str w] [])).bind fun y S2 => (R.of (leF (.int 1) y S2)).bind fun z S3 => match z with
      | .bl true => ((eC (.int 8) : EF) [some (.str w), none] S3).bind fun w S4 => R.of (leF y w S4)
      | .bl false => .ok (.bl false) S3
      | _ => .bad) = _
    rw [hn]
    show (match PV.bl (decide ((1 : Int) ≤ (w.length : Nat))) with
      | .bl true => R.of (leF (.int (w.length : Nat)) (.int 8) ([] : Sto))
      | .bl false => .ok (.bl false) []
      | _ => .bad) = _
    rw [decide_eq_true (by omega)]
    show R.of (some (PV.bl (decide (((w.length : Nat) : Int) ≤ 8)), ([] : Sto))) = _
    rw [decide_eq_true (by omega)]
    rfl
  refine Pv.W.rdP rfl (Pv.W.seq (Pv.W.ite (Pv.W.or (Pv.W.not (okR.of (v := true) (S := []) rfl ⟨fun h => (by cases h), fun _ => Pv.W.not (Pv.W.bE (okR.of hch ⟨true, rfl, fun h => (by cases h), fun _ => Pv.W.next (Pv.W.go (Pv.W.seq ?_))⟩))⟩)))))
  show rsP (forK (gN 1) l0_is_word [some (.str w), none] (anyK (.ok (.str w) []))) _
  rw [anyK_str, forK_L]
  exact word_loop w.cps.toList (some (.str w)) none h3
theorem fits_w {s w : Str} (hs : s = "load" ∨ s = "store" ∨ s = "fail") (h : WdOk w) : f_fits_form [.con .own .tup [.str s, .str w]] = .ok (.bl true) := by
  have hw := is_word_ok h
  rcases hs with rfl | rfl | rfl <;>
  exact Pv.W.rdP rfl (Pv.W.seq (Pv.W.iteF (S1 := []) rfl (Pv.W.next (Pv.W.go (Pv.W.seq (Pv.W.iteF (S1 := []) rfl (Pv.W.next (Pv.W.go (Pv.W.seq (Pv.W.iteF (S1 := []) rfl (Pv.W.next (Pv.W.go (Pv.W.seq (Pv.W.iteT (S1 := []) rfl (Pv.W.ret (Pv.W.clP (okR.of (v := [.str w]) (S := []) rfl ⟨_, _, rfl, hw, _, _, rfl, rfl⟩)))))))))))))))))
theorem fits_ok (i : Itr) (g : i.good) : f_fits_form [i.pv] = .ok (.bl true) := by
  cases i with
  | c n => exact fits_c g.1 g.2
  | ld w => exact fits_w (Or.inl rfl) g
  | sto w => exact fits_w (Or.inr (Or.inl rfl)) g
  | op o => cases o <;> rfl
  | fl w => exact fits_w (Or.inr (Or.inr rfl)) g
  | jp t => exact fits_j (Or.inl rfl)
  | ji t => exact fits_j (Or.inr rfl)
end Law
/-! G16: which handler receives. -/
namespace Pv
open PySem PySem.Spec PyProof.Rows L2
section
variable {Γ : Gam} {S : Sto} {P : RS → Prop} {t : SF} {a b c : EF} {i : Nat} {ps : List PV} {m : Md} {x y z : Int} {B : Bool → Sto → Prop}
theorem W.forT (h : okR (a Γ S) fun v S1 => ∃ m ps, v = .con m .tup ps ∧ rsP (forL (sTurn (gN i) t) ps Γ S1) P) : rsP (sFor (iAny a) (gN i) t Γ S) P := by
  obtain ⟨v, S1, e, m, ps, e2, q⟩ := h.eq
  subst e2
  rw [sFor_eq, iAny_eq, e, anyK_tup, forK_L]
  exact q
theorem W.chLeLt (ea : a Γ S = .ok (.int x) S) (eb : b Γ S = .ok (.int y) S) (ec : c Γ S = .ok (.int z) S) (h : B (decide (x ≤ y ∧ y < z)) S) : okR (Pv.bE (eChain leF ltF a b c) Γ S) B := by
  have e : eChain leF ltF a b c Γ S = .ok (.bl (decide (x ≤ y ∧ y < z))) S := by
    by_cases h1 : x ≤ y
    · by_cases h2 : y < z <;> simp [ea, eb, ec, h1, h2]
    · simp [ea, eb, h1]
  exact W.bE (okR.of e ⟨_, rfl, h⟩)
end
end Pv
namespace Law
open PySem PySem.Spec PyProof.Rows L2 Pv
def rcv (i : Nat) (k : Str) (h : Hnd) : Bool := decide (h.s ≤ i ∧ i < h.e) && (decide (h.k = none) || decide (h.k = some k))
def recvP (hds : List Hnd) (i : Nat) (k : Str) : PV := match hds.find? (rcv i k) with
  | some h => h.pv
  | none => .non
theorem clean_hnd (h : Hnd) : clean h.pv = true := by
  obtain ⟨s, e, t, d, k⟩ := h
  cases k <;> rfl
theorem recv_loop {cs : PV} {i : Nat} {k : Str} : ∀ (hds : List Hnd) (x : Option PV), rsP (forL (sTurn (gN 3) l0_receiver) (hds.map Hnd.pv) [some cs, some (.int (i : Nat)), some (.str k), x] []) (thenS r1_receiver fun r => ∃ u S, r = .rt u S ∧ resP S u = .ok (recvP hds i k))
  | [], x => Pv.W.forN ⟨.non, [], rfl, rfl⟩
  | h :: hds, x => by
    refine Pv.W.forC ?_
    have skip : rcv i k h = false → rsP (.nx [some cs, some (.int (i : Nat)), some (.str k), some h.pv] []) (forP l0_receiver 3 (hds.map Hnd.pv) (thenS r1_receiver fun r => ∃ u S, r = .rt u S ∧ resP S u = .ok (recvP (h :: hds) i k))) := fun z => by
      have e : recvP (h :: hds) i k = recvP hds i k := by unfold recvP; rw [List.find?_cons, z]
      rw [e]
      exact Pv.W.forG (recv_loop hds (some h.pv))
    have take : rcv i k h = true → rsP (.rt h.pv []) (forP l0_receiver 3 (hds.map Hnd.pv) (thenS r1_receiver fun r => ∃ u S, r = .rt u S ∧ resP S u = .ok (recvP (h :: hds) i k))) := fun z => by
      have e : recvP (h :: hds) i k = h.pv := by unfold recvP; rw [List.find?_cons, z]
      rw [e]
      exact ⟨h.pv, [], rfl, resP_clean (clean_hnd h)⟩
    refine Pv.W.ite (Pv.W.and (Pv.W.chLeLt (x := h.s) (y := i) (z := h.e) rfl rfl rfl ⟨fun h1 => ?_, fun h1 => ⟨fun z => (by cases z), fun _ => Pv.W.next (skip ?_)⟩⟩))
    · have h1 : h.s ≤ i ∧ i < h.e := by have := of_decide_eq_true h1; omega
      cases hk : h.k with
      | none =>
        have ev : eOp ixF (eV 3) (eC (.int 4)) [some cs, some (.int (i : Nat)), some (.str k), some h.pv] [] = .ok .non [] := by
          show R.ok (okP h.k) [] = _
          rw [hk]; rfl
        refine okR.of (v := true) (S := []) ?_ ⟨fun _ => Pv.W.ret (Pv.W.var rfl (take ?_)), fun z => (by cases z)⟩
        · unfold bOr
          have : bE (eU (fun p => .bl (isNP p)) (eOp ixF (eV 3) (eC (.int 4)))) [some cs, some (.int (i : Nat)), some (.str k), some h.pv] [] = .ok true [] := by
            rw [bE_eq, eU_eq, ev]; rfl
          show ((bE (eU (fun p => .bl (isNP p)) (eOp ixF (eV 3) (eC (.int 4)))) [some cs, some (.int (i : Nat)), some (.str k), some h.pv] []).bind _) = _
          rw [this]; rfl
        · unfold rcv; simp [h1, hk]
      | some w =>
        have ev : eOp ixF (eV 3) (eC (.int 4)) [some cs, some (.int (i : Nat)), some (.str k), some h.pv] [] = .ok (.str w) [] := by
          show R.ok (okP h.k) [] = _
          rw [hk]; rfl
        have e1 : bE (eU (fun p => .bl (isNP p)) (eOp ixF (eV 3) (eC (.int 4)))) [some cs, some (.int (i : Nat)), some (.str k), some h.pv] [] = .ok false [] := by
          rw [bE_eq, eU_eq, ev]; rfl
        have e2 : bE (eOp eqF (eOp ixF (eV 3) (eC (.int 4))) (eV 2)) [some cs, some (.int (i : Nat)), some (.str k), some h.pv] [] = .ok (decide (w = k)) [] := by
          have e3 : eOp eqF (eOp ixF (eV 3) (eC (.int 4))) (eV 2) [some cs, some (.int (i : Nat)), some (.str k), some h.pv] [] = .ok (.bl (decide (w = k))) [] := by
            show (eOp ixF (eV 3) (eC (.int 4)) [some cs, some (.int (i : Nat)), some (.str k), some h.pv] []).bind _ = _
            rw [ev]
            show R.of (eqF (.str w) (.str k) []) = _
            simp
          rw [bE_eq, e3]; rfl
        refine okR.of (v := decide (w = k)) (S := []) ?_ ⟨fun z => Pv.W.ret (Pv.W.var rfl (take ?_)), fun z => Pv.W.next (skip ?_)⟩
        · show ((bE (eU (fun p => .bl (isNP p)) (eOp ixF (eV 3) (eC (.int 4)))) [some cs, some (.int (i : Nat)), some (.str k), some h.pv] []).bind _) = _
          rw [e1]
          exact e2
        · have := of_decide_eq_true z
          unfold rcv; simp [h1, hk, this]
        · have := of_decide_eq_false z
          unfold rcv; simp [h1, hk, this]
    · have : ¬ (h.s ≤ i ∧ i < h.e) := by have := of_decide_eq_false h1; omega
      unfold rcv; simp [this]
theorem receiver_ok (hds : List Hnd) (i : Nat) (k : Str) {m : Md} : f_receiver [.con m .tup (hds.map Hnd.pv), .int (i : Nat), .str k] = .ok (recvP hds i k) :=
  Pv.W.rdP rfl (Pv.W.seq (Pv.W.forT (Pv.W.var rfl ⟨m, _, rfl, recv_loop hds none⟩)))
end Law
/-! G17: where a row leads. -/
namespace Law
open PySem PySem.Spec PyProof.Rows L2 Pv
def kindO : Itr → Option Str
  | .ld _ => some "unbound"
  | .fl w => some w
  | .op o => match o with
    | .div => some "zero"
    | _ => none
  | _ => none
theorem kind_ok (i : Itr) : f_raised_kind [i.pv] = .ok (okP (kindO i)) := by
  cases i with
  | op o => cases o <;> rfl
  | _ => rfl
def nm : Itr → Str
  | .c _ => "const" | .ld _ => "load" | .sto _ => "store" | .op o => o.name | .fl _ => "fail" | .jp _ => "jump" | .ji _ => "jumpif"
theorem last_t : decide ((("const" : Str)) ∈ c_LAST) = false ∧ decide ((("load" : Str)) ∈ c_LAST) = false ∧ decide ((("store" : Str)) ∈ c_LAST) = false ∧ decide ((("fail" : Str)) ∈ c_LAST) = true ∧ decide ((("jump" : Str)) ∈ c_LAST) = true ∧ decide ((("jumpif" : Str)) ∈ c_LAST) = false := by decide +kernel
theorem jump_t : decide ((("const" : Str)) ∈ c_JUMPS) = false ∧ decide ((("load" : Str)) ∈ c_JUMPS) = false ∧ decide ((("store" : Str)) ∈ c_JUMPS) = false ∧ decide ((("fail" : Str)) ∈ c_JUMPS) = false ∧ decide ((("jump" : Str)) ∈ c_JUMPS) = true ∧ decide ((("jumpif" : Str)) ∈ c_JUMPS) = true := by decide +kernel
theorem nm_last (i : Itr) : decide (nm i ∈ c_LAST) = i.last := by
  cases i with
  | op o => cases o <;> decide +kernel
  | c n => exact last_t.1
  | ld w => exact last_t.2.1
  | sto w => exact last_t.2.2.1
  | fl w => exact last_t.2.2.2.1
  | jp t => exact last_t.2.2.2.2.1
  | ji t => exact last_t.2.2.2.2.2
theorem nm_jump (i : Itr) : decide (nm i ∈ c_JUMPS) = i.tgt.isSome := by
  cases i with
  | op o => cases o <;> decide +kernel
  | c n => exact jump_t.1
  | ld w => exact jump_t.2.1
  | sto w => exact jump_t.2.2.1
  | fl w => exact jump_t.2.2.2.1
  | jp t => exact jump_t.2.2.2.2.1
  | ji t => exact jump_t.2.2.2.2.2
theorem nm_ix (i : Itr) {S : Sto} : ixB S i.pv (.int 0) = some (.str (nm i)) := by cases i <;> rfl
theorem tgt_ix {i : Itr} {t : Nat} (h : i.tgt = some t) {S : Sto} : ixB S i.pv (.int 1) = some (.int (t : Nat)) := by
  cases i with
  | jp u => cases h; rfl
  | ji u => cases h; rfl
  | _ => cases h
/-- the exits: place, handler -/
def exN (n i : Nat) (r : Itr) : List (Nat × Option Hnd) := if r.last = false ∧ i + 1 < n then [(i + 1, none)] else []
def exJ (r : Itr) : List (Nat × Option Hnd) := match r.tgt with
  | some t => [(t, none)]
  | none => []
def exH (hds : List Hnd) (i : Nat) (r : Itr) : List (Nat × Option Hnd) := match kindO r with
  | some k => match hds.find? (rcv i k) with
    | some h => [(h.t, some h)]
    | none => []
  | none => []
def exits (n : Nat) (hds : List Hnd) (i : Nat) (r : Itr) : List (Nat × Option Hnd) := exN n i r ++ exJ r ++ exH hds i r
def hvP : Option Hnd → PV
  | none => .non
  | some h => h.pv
def exP (x : Nat × Option Hnd) : PV := .con .own .tup [.int x.1, hvP x.2]
section
variable {Γ : Gam} {P : RS → Prop} {t : EF} {ps : List PV}
theorem mapp (h3 : Γ[3]? = some (some (.ref 0))) (hz : ps.length < 100) (x : Nat × Option Hnd) (e : t Γ [some (.lst, ps)] = .ok (exP x) [some (.lst, ps)]) (k : rsP (.nx Γ [some (.lst, ps ++ [exP x])]) P) : rsP (sExpr (eM "list" appendF (eV 3) (aCons t aNil)) Γ [some (.lst, ps)]) P := by
  refine Pv.W.expr (Pv.W.meth (Pv.W.var h3 ⟨rfl, Pv.W.cons (okR.of e (Pv.W.nil ⟨.non, _, ?_, k⟩))⟩))
  have z : ps.length < sizeLine := by have : sizeLine = 16777216 := sizeLine_eq; omega
  show lstF _ _ _ _ = _
  unfold lstF
  simp only [List.getElem?_cons_zero, Option.join_some]
  rw [if_pos z]
  rfl
end
theorem clean_ex (x : Nat × Option Hnd) : clean (exP x) = true := by
  obtain ⟨t, h⟩ := x
  cases h with
  | none => rfl
  | some h =>
    have := clean_hnd h
    simp only [exP, hvP, clean, cleans, this]
    rfl
theorem cleans_ex : ∀ xs : List (Nat × Option Hnd), cleans (xs.map exP) = true
  | [] => rfl
  | x :: xs => by
    simp only [List.map_cons, cleans, clean_ex, cleans_ex xs]
    rfl
end Law
/-! G18: moves. -/
namespace Law
open PySem PySem.Spec PyProof.Rows L2 Pv
theorem lend_clean' {S : Sto} {p : PV} (h : clean p = true) : lendV S p = some p := by unfold lendV; rw [if_pos h]
theorem clean_itr (i : Itr) : clean i.pv = true := by
  cases i with
  | op o => cases o <;> rfl
  | _ => rfl
theorem cleans_hnds : ∀ hds : List Hnd, cleans (hds.map Hnd.pv) = true
  | [] => rfl
  | h :: hds => by simp only [List.map_cons, cleans, clean_hnd, cleans_hnds hds]; rfl
theorem in4 {Γ : Gam} {S : Sto} {w : Str} (l : List Str) (h : Γ[4]? = some (some (.str w))) : eOp inF (eV 4) (eC (.con .out .tup (l.map PV.str))) Γ S = .ok (.bl (decide (w ∈ l))) S := by
  have a : eV 4 Γ S = .ok (.str w) S := by unfold eV; rw [h]
  unfold eOp
  rw [a]
  show R.of (inF (.str w) (.con .out .tup (l.map PV.str)) S) = _
  rw [inF_strs (Or.inr rfl)]
  rfl
theorem nin4 {Γ : Gam} {S : Sto} {w : Str} (l : List Str) (h : Γ[4]? = some (some (.str w))) : eOp ninF (eV 4) (eC (.con .out .tup (l.map PV.str))) Γ S = .ok (.bl (!decide (w ∈ l))) S := by
  have a : eV 4 Γ S = .ok (.str w) S := by unfold eV; rw [h]
  unfold eOp
  rw [a]
  show R.of (ninF (.str w) (.con .out .tup (l.map PV.str)) S) = _
  rw [ninF_strs (Or.inr rfl)]
  rfl
theorem moves_okM {m : Md} (hm : m ≠ .lent) (rows : List Rw) (hds : List Hnd) (i : Nat) (r : Rw) (hr : rows[i]? = some r) (hz : rows.length < 100000) :
    f_moves [.con .own .tup (rows.map fun r => r.i.pv), .con m .tup (hds.map Hnd.pv), .int (i : Nat)] = .ok (.con .own .lst ((exits rows.length hds i r.i).map exP)) := by
  have hi := (List.getElem?_eq_some_iff.mp hr).1
  have z : sizeLine = 16777216 := sizeLine_eq
  have hcd : ∀ S : Sto, ixB S (.con .own .tup (rows.map fun r => r.i.pv)) (.int (i : Nat)) = some r.i.pv := fun S => by
    show L2.atI (rows.map fun r => r.i.pv) (i : Int) = _
    rw [atI_nat, List.getElem?_map, hr]
    rfl
  have le : (rows.map fun r : Rw => r.i.pv).length = rows.length := List.length_map _
  have ci : ∀ (Γ : Gam) (S : Sto), Γ[0]? = some (some (.con .own .tup (rows.map fun r => r.i.pv))) → Γ[2]? = some (some (.int (i : Nat))) → eOp ixF (eV 0) (eV 2) Γ S = .ok r.i.pv S := fun Γ S h0 h2 => by
    have a : eV 0 Γ S = .ok (.con .own .tup (rows.map fun r => r.i.pv)) S := by unfold eV; rw [h0]
    have b : eV 2 Γ S = .ok (.int (i : Nat)) S := by unfold eV; rw [h2]
    unfold eOp
    rw [a]
    show (eV 2 Γ S).bind _ = _
    rw [b]
    show R.of ((ixB S _ _).map _) = _
    rw [hcd]
    rfl
  have fin : ∀ (xs : List (Nat × Option Hnd)) (a b : Option PV) (w : Option PV), rsP (r1_moves [some (.con .own .tup (rows.map fun r => r.i.pv)), some (.con m .tup (hds.map Hnd.pv)), some (.int (i : Nat)), some (.ref 0), w, a, b] [some (.lst, xs.map exP)]) fun q => ∃ u S, q = .rt u S ∧ resP S u = .ok (.con .own .lst (xs.map exP)) := fun xs a b w =>
    Pv.W.ret (Pv.W.var rfl ⟨.ref 0, _, rfl, resP_ref rfl (cleans_ex xs)⟩)
  have last : ∀ (xs : List (Nat × Option Hnd)) (w : Option PV), xs.length < 50 → rsP (r2_moves [some (.con .own .tup (rows.map fun r => r.i.pv)), some (.con m .tup (hds.map Hnd.pv)), some (.int (i : Nat)), some (.ref 0), w, none, none] [some (.lst, xs.map exP)]) fun q => ∃ u S, q = .rt u S ∧ resP S u = .ok (.con .own .lst ((xs ++ exH hds i r.i).map exP)) := fun xs w hx => by
    refine Pv.W.seq (Pv.W.set (Pv.W.clP (Pv.W.cons (okR.of (ci _ _ rfl rfl) (Pv.W.nil ⟨_, _, (by simp only [List.mapM_cons, List.mapM_nil, lend_clean' (clean_itr r.i)]; rfl), kind_ok r.i, Pv.W.go ?_⟩)))))
    unfold exH
    cases hk : kindO r.i with
    | none =>
      simp only [List.append_nil]
      exact Pv.W.seq (Pv.W.iteF (S1 := [some (.lst, xs.map exP)]) rfl (Pv.W.next (Pv.W.go (fin xs _ _ w))))
    | some k =>
      refine Pv.W.seq (Pv.W.iteT (S1 := [some (.lst, xs.map exP)]) rfl ?_)
      refine Pv.W.seq (Pv.W.set (Pv.W.clP (Pv.W.cons (Pv.W.var rfl (Pv.W.cons (Pv.W.var rfl (Pv.W.cons (Pv.W.var rfl (Pv.W.nil ⟨[.con m .tup (hds.map Hnd.pv), .int (i : Nat), .str k], recvP hds i k, ?_, receiver_ok hds i k, Pv.W.go ?_⟩)))))))))
      · simp only [List.mapM_cons, List.mapM_nil]
        rw [lend_clean' (p := .con m .tup (hds.map Hnd.pv)) (by cases m <;> simp_all [clean, cleans_hnds])]
        rfl
      · unfold recvP
        cases hf : hds.find? (rcv i k) with
        | none =>
          have q := fin xs (some (okP (some k))) (some .non) w
          simp only [hf, List.append_nil]
          exact Pv.W.iteF (S1 := [some (.lst, xs.map exP)]) rfl (Pv.W.next (Pv.W.go q))
        | some h =>
          simp only [hf]
          refine Pv.W.iteT (S1 := [some (.lst, xs.map exP)]) rfl (mapp rfl (by rw [List.length_map]; omega) (h.t, some h) rfl (Pv.W.go ?_))
          have := fin (xs ++ [(h.t, some h)]) (some (okP (some k))) (some h.pv) w
          simpa using this
  have jmp : ∀ (xs : List (Nat × Option Hnd)), xs.length < 40 → rsP (r3_moves [some (.con .own .tup (rows.map fun r => r.i.pv)), some (.con m .tup (hds.map Hnd.pv)), some (.int (i : Nat)), some (.ref 0), some (.str (nm r.i)), none, none] [some (.lst, xs.map exP)]) fun q => ∃ u S, q = .rt u S ∧ resP S u = .ok (.con .own .lst ((xs ++ exJ r.i ++ exH hds i r.i).map exP)) := fun xs hx => by
    have tj := nm_jump r.i
    have et : bE (eOp inF (eV 4) (eC (.con .out .tup (c_JUMPS.map PV.str)))) [some (.con .own .tup (rows.map fun r => r.i.pv)), some (.con m .tup (hds.map Hnd.pv)), some (.int (i : Nat)), some (.ref 0), some (.str (nm r.i)), none, none] [some (.lst, xs.map exP)] = .ok (decide (nm r.i ∈ c_JUMPS)) [some (.lst, xs.map exP)] := by
      rw [bE_eq, in4 c_JUMPS (w := nm r.i) rfl]
      rfl
    unfold exJ
    cases ht : r.i.tgt with
    | none =>
      rw [ht] at tj
      rw [tj] at et
      simp only [List.append_nil]
      exact Pv.W.seq (Pv.W.iteF et (Pv.W.next (Pv.W.go (last xs _ (by omega)))))
    | some t =>
      rw [ht] at tj
      rw [tj] at et
      refine Pv.W.seq (Pv.W.iteT et (mapp rfl (by rw [List.length_map]; omega) (t, none) ?_ (Pv.W.go ?_)))
      · have c1 := ci [some (.con .own .tup (rows.map fun r => r.i.pv)), some (.con m .tup (hds.map Hnd.pv)), some (.int (i : Nat)), some (.ref 0), some (.str (nm r.i)), none, none] [some (.lst, xs.map exP)] rfl rfl
        have c2 : eOp ixF (eOp ixF (eV 0) (eV 2)) (eC (.int 1)) [some (.con .own .tup (rows.map fun r => r.i.pv)), some (.con m .tup (hds.map Hnd.pv)), some (.int (i : Nat)), some (.ref 0), some (.str (nm r.i)), none, none] [some (.lst, xs.map exP)] = .ok (.int (t : Nat)) [some (.lst, xs.map exP)] := by
          show (eOp ixF (eV 0) (eV 2) _ _).bind _ = _
          rw [c1]
          show R.of ((ixB _ r.i.pv (.int 1)).map _) = _
          rw [tgt_ix ht]
          rfl
        show ((eOp ixF (eOp ixF (eV 0) (eV 2)) (eC (.int 1)) _ _).bind _).bind _ = _
        rw [c2]
        rfl
      · have := last (xs ++ [(t, none)]) (some (.str (nm r.i))) (by simp; omega)
        simpa using this
  refine Pv.W.rdP rfl (Pv.W.seq (Pv.W.set (Pv.W.lstT (Pv.W.nil ⟨Nat.zero_le _, Pv.W.go ?_⟩))))
  refine Pv.W.seq (Pv.W.set (Pv.W.op (okR.of (ci _ _ rfl rfl) (Pv.W.con ⟨.str (nm r.i), [some (.lst, [])], ?_, Pv.W.go ?_⟩))))
  · show (ixB _ r.i.pv (.int 0)).map _ = _
    rw [nm_ix]
    rfl
  have tl := nm_last r.i
  have e1 : bE (eOp ninF (eV 4) (eC (.con .out .tup (c_LAST.map PV.str)))) [some (.con .own .tup (rows.map fun r => r.i.pv)), some (.con m .tup (hds.map Hnd.pv)), some (.int (i : Nat)), some (.ref 0), some (.str (nm r.i)), none, none] [some (.lst, [])] = .ok (!r.i.last) [some (.lst, [])] := by
    rw [bE_eq, ← tl, nin4 c_LAST (w := nm r.i) rfl]
    rfl
  have e2 : bE (eOp ltF (eOp (addF false) (eV 2) (eC (.int 1))) (eCall lenF (aCons (eV 0) aNil))) [some (.con .own .tup (rows.map fun r => r.i.pv)), some (.con m .tup (hds.map Hnd.pv)), some (.int (i : Nat)), some (.ref 0), some (.str (nm r.i)), none, none] [some (.lst, [])] = .ok (decide (i + 1 < rows.length)) [some (.lst, [])] := by
    have : bE (eOp ltF (eOp (addF false) (eV 2) (eC (.int 1))) (eCall lenF (aCons (eV 0) aNil))) [some (.con .own .tup (rows.map fun r => r.i.pv)), some (.con m .tup (hds.map Hnd.pv)), some (.int (i : Nat)), some (.ref 0), some (.str (nm r.i)), none, none] [some (.lst, [])] = .ok (decide ((i : Int) + 1 < ((rows.map fun r : Rw => r.i.pv).length : Nat))) [some (.lst, [])] := rfl
    rw [this, le]
    have e : decide ((i : Int) + 1 < (rows.length : Nat)) = decide (i + 1 < rows.length) := by rw [decide_eq_decide]; omega
    rw [e]
  have e3 : bAnd (bE (eOp ninF (eV 4) (eC (.con .out .tup (c_LAST.map PV.str))))) (bE (eOp ltF (eOp (addF false) (eV 2) (eC (.int 1))) (eCall lenF (aCons (eV 0) aNil)))) [some (.con .own .tup (rows.map fun r => r.i.pv)), some (.con m .tup (hds.map Hnd.pv)), some (.int (i : Nat)), some (.ref 0), some (.str (nm r.i)), none, none] [some (.lst, [])] = .ok (!r.i.last && decide (i + 1 < rows.length)) [some (.lst, [])] := by
    unfold bAnd
    rw [e1]
    show (if (!r.i.last) = true then _ else _) = _
    rw [e2]
    cases r.i.last <;> simp
  unfold exits exN
  by_cases hn : r.i.last = false ∧ i + 1 < rows.length
  · rw [if_pos hn]
    have e4 : (!r.i.last && decide (i + 1 < rows.length)) = true := by rw [hn.1]; simp [hn.2]
    rw [e4] at e3
    refine Pv.W.seq (Pv.W.iteT e3 (mapp (ps := []) rfl (by decide) (i + 1, none) rfl (Pv.W.go ?_)))
    exact jmp [(i + 1, none)] (by simp)
  · rw [if_neg hn]
    have e4 : (!r.i.last && decide (i + 1 < rows.length)) = false := by
      cases hl : r.i.last with
      | true => rfl
      | false => simp [hl] at hn ⊢; exact hn
    rw [e4] at e3
    exact Pv.W.seq (Pv.W.iteF e3 (Pv.W.next (Pv.W.go (jmp [] (by decide)))))
end Law
/-! G19: rules for while, and for lists that stand still. -/
namespace Pv
open PySem PySem.Spec PyProof.Rows L2
section
variable {Γ : Gam} {S : Sto} {P : RS → Prop} {c : BF} {t : SF} {a : EF} {ps : List PV}
theorem W.whl (I : Nat → Gam → Sto → Prop) (step : ∀ m Γ S, I m Γ S → okR (c Γ S) fun k S1 => (k = false → rsP (.nx Γ S1) P) ∧ (k = true → rsP (t Γ S1) fun r => Trn r (fun Γ' S' => ∃ m', m' < m ∧ I m' Γ' S') P)) {m : Nat} (h : I m Γ S) (hm : m < 1000000000000) : rsP (sWhl c t Γ S) P :=
  sWhl_ind2 I P (fun m Γ S i => by
    obtain ⟨k, S1, e, h1, h2⟩ := (step m Γ S i).eq
    cases k with
    | false => exact Or.inl ⟨S1, e, h1 rfl⟩
    | true => exact Or.inr ⟨S1, e, h2 rfl⟩) h hm
/-- a for over a list that stands still, any target -/
theorem W.forS {gt : GF} (h : okR (a Γ S) fun v S1 => ∃ m ps, (v = .con m .lst ps ∨ v = .con m .tup ps) ∧ rsP (forL (sTurn gt t) ps Γ S1) P) : rsP (sFor (iAny a) gt t Γ S) P := by
  obtain ⟨v, S1, e, m, ps, e2, q⟩ := h.eq
  rcases e2 with e2 | e2
  · subst e2
    rw [sFor_eq, iAny_eq, e, anyK_lst, forK_L]
    exact q
  · subst e2
    rw [sFor_eq, iAny_eq, e, anyK_tup, forK_L]
    exact q
/-- its turns, by an invariant -/
theorem W.turns {α : Type} {gt : GF} (g : α → PV) (J : List α → List α → Gam → Sto → Prop) (step : ∀ d x r Γ S, J d (x :: r) Γ S → ∃ Γ1 S1, gt (g x) Γ S = .ok Γ1 S1 ∧ rsP (t Γ1 S1) fun q => Trn q (J (d ++ [x]) r) P) (h0 : ∀ d Γ S, J d [] Γ S → rsP (.nx Γ S) P) {r : List α} (h : J [] r Γ S) :
    rsP (forL (sTurn gt t) (r.map g) Γ S) P :=
  forM_ind g J P (fun d x r Γ S i => by
    obtain ⟨Γ1, S1, e, q⟩ := step d x r Γ S i
    have : sTurn gt t (g x) Γ S = t Γ1 S1 := by unfold sTurn; rw [e]; rfl
    rw [this]
    exact q) h0 r [] Γ S h
end
end Pv
/-! G20: one exit in the worklist of depths. -/
namespace Law
open PySem PySem.Spec PyProof.Rows L2 Pv
def okd : Option Nat → PV
  | none => .non
  | some d => .int (d : Nat)
def wantd (aft : Nat) (x : Nat × Option Hnd) : Nat := match x.2 with
  | none => aft
  | some h => h.d
abbrev dst (ds : List (Option Nat)) (wt : List Nat) : Sto := [some (.lst, ds.map okd), some (.lst, wt.map fun w => .int (w : Nat))]
theorem raise0 {c : Str} {Γ : Gam} {S : Sto} {P : RS → Prop} (h : P (.ex c [] Γ S)) : rsP (sRaise0 c Γ S) P := h
theorem dturn {ds : List (Option Nat)} {wt : List Nat} {x : Nat × Option Hnd} {dep aft : Nat} {P : RS → Prop} {c h i w y : Option PV} (ht : x.1 < ds.length) (hw : wt.length < 100000)
    (ok : (∀ Γ S, P (.ex "BadDepth" [] Γ S)) ∨ ((∀ h, x.2 = some h → h.d ≤ dep) ∧ ∀ d, ds[x.1]? = some (some d) → d = wantd aft x))
    (k : ∀ ds' wt', (ds[x.1]? = some (some (wantd aft x)) ∧ ds' = ds ∧ wt' = wt) ∨ (ds[x.1]? = some none ∧ ds' = ds.set x.1 (some (wantd aft x)) ∧ wt' = wt ++ [x.1]) →
      rsP (.nx [c, h, some (.ref 0), some (.ref 1), i, some (.int (dep : Nat)), w, some (.int (aft : Nat)), some (.int x.1), some (hvP x.2), some (.int (wantd aft x : Nat))] (dst ds' wt')) P) :
    rsP (l3_depths_of [c, h, some (.ref 0), some (.ref 1), i, some (.int (dep : Nat)), w, some (.int (aft : Nat)), some (.int x.1), some (hvP x.2), y] (dst ds wt)) P := by
  obtain ⟨t, ho⟩ := x
  have ht : t < ds.length := ht
  have gt : ∀ (Γ : Gam), Γ[2]? = some (some (.ref 0)) → Γ[8]? = some (some (.int (t : Nat))) → eOp ixF (eV 2) (eV 8) Γ (dst ds wt) = .ok (okd ds[t]) (dst ds wt) := fun Γ h2 h8 => by
    have a : eV 2 Γ (dst ds wt) = .ok (.ref 0) (dst ds wt) := by unfold eV; rw [h2]
    have b : eV 8 Γ (dst ds wt) = .ok (.int (t : Nat)) (dst ds wt) := by unfold eV; rw [h8]
    unfold eOp
    rw [a]
    show (eV 8 Γ (dst ds wt)).bind _ = _
    rw [b]
    show R.of ((ixB (dst ds wt) (.ref 0) (.int (t : Nat))).map _) = _
    rw [ixB_ref (n := 0) (ps := ds.map okd) rfl, atI_nat, List.getElem?_map, List.getElem?_eq_getElem ht]
    rfl
  have fin : ∀ (wn : Nat), wn = wantd aft (t, ho) → rsP (r2_depths_of [c, h, some (.ref 0), some (.ref 1), i, some (.int (dep : Nat)), w, some (.int (aft : Nat)), some (.int (t : Nat)), some (hvP ho), some (.int (wn : Nat))] (dst ds wt)) P := fun wn hwn => by
    subst hwn
    have g1 := gt [c, h, some (.ref 0), some (.ref 1), i, some (.int (dep : Nat)), w, some (.int (aft : Nat)), some (.int (t : Nat)), some (hvP ho), some (.int (wantd aft (t, ho) : Nat))] rfl rfl
    cases hd : ds[t] with
    | none =>
      rw [hd] at g1
      refine Pv.W.iteT (S1 := dst ds wt) (by rw [bE_eq, eU_eq, g1]; rfl) ?_
      refine Pv.W.seq (Pv.W.asg (Pv.W.var rfl (okR.of (v := [c, h, some (.ref 0), some (.ref 1), i, some (.int (dep : Nat)), w, some (.int (aft : Nat)), some (.int (t : Nat)), some (hvP ho), some (.int (wantd aft (t, ho) : Nat))]) (S := dst (ds.set t (some (wantd aft (t, ho)))) wt) ?_ (Pv.W.go ?_))))
      · show (match setLF (.ref 0) (.int (t : Nat)) (.int (wantd aft (t, ho) : Nat)) (dst ds wt) with
          | some S3 => R.ok _ S3
          | none => .bad) = _
        rw [setLF_ref (n := 0) (ps := ds.map okd) rfl]
        have : ixN (ds.map okd).length (t : Int) = some t := by unfold ixN; rw [if_pos (by omega), if_pos (by rw [List.length_map]; omega)]; simp
        rw [this]
        simp [List.map_set, okd]
      · refine Pv.W.expr (Pv.W.meth (Pv.W.var rfl ⟨rfl, Pv.W.cons (Pv.W.var rfl (Pv.W.nil ⟨.non, dst (ds.set t (some (wantd aft (t, ho)))) (wt ++ [t]), ?_, ?_⟩))⟩))
        · have z : (wt.map fun w : Nat => PV.int (w : Nat)).length < sizeLine := by have : sizeLine = 16777216 := sizeLine_eq; rw [List.length_map]; omega
          show lstF _ _ _ _ = _
          unfold lstF
          simp only [List.getElem?_cons_succ, List.getElem?_cons_zero, Option.join_some]
          rw [if_pos z]
          simp
        · exact k _ _ (Or.inr ⟨by rw [List.getElem?_eq_getElem ht, hd], rfl, rfl⟩)
    | some d =>
      rw [hd] at g1
      refine Pv.W.iteF (S1 := dst ds wt) (by rw [bE_eq, eU_eq, g1]; rfl) ?_
      have g2 : bE (eOp neF (eOp ixF (eV 2) (eV 8)) (eV 10)) [c, h, some (.ref 0), some (.ref 1), i, some (.int (dep : Nat)), w, some (.int (aft : Nat)), some (.int (t : Nat)), some (hvP ho), some (.int (wantd aft (t, ho) : Nat))] (dst ds wt) = .ok (!decide ((d : Int) = (wantd aft (t, ho) : Nat))) (dst ds wt) := by
        rw [bE_eq]
        show beK ((eOp ixF (eV 2) (eV 8) _ _).bind _) = _
        rw [g1]
        show beK (R.of (neF (.int (d : Nat)) (.int (wantd aft (t, ho) : Nat)) _)) = _
        simp
      by_cases e : d = wantd aft (t, ho)
      · refine Pv.W.iteF (S1 := dst ds wt) (by rw [g2]; simp [e]) (Pv.W.next (k _ _ (Or.inl ⟨by rw [List.getElem?_eq_getElem ht, hd, e], rfl, rfl⟩)))
      · refine Pv.W.iteT (S1 := dst ds wt) (by rw [g2]; simp; omega) ?_
        rcases ok with ok | ⟨_, ok⟩
        · exact raise0 (ok _ _)
        · exact absurd (ok d (by rw [List.getElem?_eq_getElem ht, hd])) e
  refine Pv.W.seq (Pv.W.set (Pv.W.var rfl (Pv.W.go ?_)))
  cases ho with
  | none => exact Pv.W.seq (Pv.W.iteF (S1 := dst ds wt) rfl (Pv.W.next (Pv.W.go (fin aft rfl))))
  | some hn =>
    refine Pv.W.seq (Pv.W.iteT (S1 := dst ds wt) rfl ?_)
    refine Pv.W.seq (Pv.W.set (okR.of (v := .int (hn.d : Nat)) (S := dst ds wt) rfl (Pv.W.go ?_)))
    refine Pv.W.ite (Pv.W.bE (Pv.W.cmpI (f := fun i j => decide (i < j)) (Pv.W.var rfl (Pv.W.var rfl ⟨(dep : Nat), (hn.d : Nat), rfl, rfl, _, rfl, fun hlt => ?_, fun _ => Pv.W.next (Pv.W.go (fin hn.d rfl))⟩))))
    rcases ok with ok | ⟨ok, _⟩
    · exact raise0 (ok _ _)
    · have := ok hn rfl
      have := of_decide_eq_true hlt
      omega
end Law
/-! G21: the worklist's measure; removed and pushed. -/
namespace Law
open PySem PySem.Spec PyProof.Rows L2 Pv
def cnt (ds : List (Option Nat)) : Nat := ds.countP fun x => x.isNone
theorem cnt_set : ∀ {ds : List (Option Nat)} {t v : Nat}, ds[t]? = some none → cnt (ds.set t (some v)) + 1 = cnt ds
  | [], t, v, h => by simp at h
  | d :: ds, 0, v, h => by
    have h : d = none := by simpa using h
    subst h
    simp [cnt]
  | d :: ds, t + 1, v, h => by
    have ih := cnt_set (ds := ds) (t := t) (v := v) (by simpa using h)
    unfold cnt at *
    rw [List.set_cons_succ, List.countP_cons, List.countP_cons]
    omega
theorem rem_get (i : Itr) : mgetV c_REMOVED (nm i) (.int 0) = .int (i.rem : Nat) := by
  cases i with
  | op o => cases o <;> rfl
  | _ => rfl
theorem push_get (i : Itr) : mgetV c_PUSHED (nm i) (.int 0) = .int (i.push : Nat) := by
  cases i with
  | op o => cases o <;> rfl
  | _ => rfl
/-- what holds of the depths and of what waits -/
structure DI (n : Nat) (ds : List (Option Nat)) (wt : List Nat) : Prop where
  len : ds.length = n
  w : ∀ i ∈ wt, ∃ d, ds[i]? = some (some d)
theorem DI.put {n : Nat} {ds : List (Option Nat)} {wt : List Nat} {t v : Nat} (h : DI n ds wt) (ht : ds[t]? = some none) : DI n (ds.set t (some v)) (wt ++ [t]) := by
  have hl := (List.getElem?_eq_some_iff.mp ht).1
  refine ⟨by rw [List.length_set]; exact h.len, fun i hi => ?_⟩
  by_cases e : i = t
  · subst e
    exact ⟨v, List.getElem?_set_self hl⟩
  · rw [List.getElem?_set_ne (Ne.symm e)]
    refine h.w i ?_
    rcases List.mem_append.mp hi with q | q
    · exact q
    · exact absurd (List.mem_singleton.mp q) e
end Law
/-! W2: more wishes; loops that look for the first bad item; a step tactic. -/
namespace Pv
open PySem PySem.Spec PyProof.Rows L2
section
variable {Γ : Gam} {S : Sto} {P : RS → Prop} {t u : SF} {a b c : EF} {as : AF} {i : Nat} {v : PV} {Q : PV → Sto → Prop} {Qs : List PV → Sto → Prop} {s s' : BF} {B : Bool → Sto → Prop}
theorem W.goR (h : rsP (.rt v S) P) : rsP (.rt v S) (thenS u P) := h
theorem W.goX {cc : Str} {fs : List (Str × PV)} (h : rsP (.ex cc fs Γ S) P) : rsP (.ex cc fs Γ S) (thenS u P) := h
theorem W.goB (h : rsP (.bk Γ S) P) : rsP (.bk Γ S) (thenS u P) := h
theorem W.bT (h : okR (a Γ S) fun v S1 => ∃ k, truB S1 v = some k ∧ B k S1) : okR (bT a Γ S) B := okR.bind (h.mono fun v S1 ⟨k, e, q⟩ => by rw [e]; exact q)
theorem W.eAnd (h : okR (a Γ S) fun v S1 => ∃ k, v = .bl k ∧ (k = true → okR (b Γ S1) Q) ∧ (k = false → Q (.bl false) S1)) : okR (eAnd a b Γ S) Q := okR.bind (h.mono fun v S1 ⟨k, e, h⟩ => by
  subst e
  cases k with
  | true => exact h.1 rfl
  | false => exact h.2 rfl)
theorem W.eOr (h : okR (a Γ S) fun v S1 => ∃ k, v = .bl k ∧ (k = true → Q (.bl true) S1) ∧ (k = false → okR (b Γ S1) Q)) : okR (eOr a b Γ S) Q := okR.bind (h.mono fun v S1 ⟨k, e, h⟩ => by
  subst e
  cases k with
  | true => exact h.1 rfl
  | false => exact h.2 rfl)
theorem W.eNot (h : okR (a Γ S) fun v S1 => ∃ k, v = .bl k ∧ Q (.bl (!k)) S1) : okR (eNot a Γ S) Q := okR.bind (h.mono fun v S1 ⟨k, e, h⟩ => by subst e; exact h)
theorem W.eU {f : PV → PV} (h : okR (a Γ S) fun v S1 => Q (f v) S1) : okR (eU f a Γ S) Q := okR.bind (h.mono fun v S1 h => h)
theorem W.eNeg (h : okR (a Γ S) fun v S1 => ∃ i : Int, v = .int i ∧ Q (.int (-i)) S1) : okR (eNeg a Γ S) Q := okR.bind (h.mono fun v S1 ⟨k, e, h⟩ => by subst e; exact h)
theorem W.eIf (h : okR (s Γ S) fun k S1 => (k = true → okR (a Γ S1) Q) ∧ (k = false → okR (b Γ S1) Q)) : okR (eIf s a b Γ S) Q := okR.bind (h.mono fun k S1 h => by
  cases k with
  | true => exact h.1 rfl
  | false => exact h.2 rfl)
/-- a chain of two comparisons over whole numbers -/
theorem W.chI {f f' : Int → Int → Bool} (h : okR (a Γ S) fun x S1 => okR (b Γ S1) fun y S2 => ∃ i j : Int, x = .int i ∧ y = .int j ∧ (f i j = true → okR (c Γ S2) fun z S3 => ∃ k : Int, z = .int k ∧ Q (.bl (f' j k)) S3) ∧ (f i j = false → Q (.bl false) S2)) :
    okR (eChain (iOp0 fun i j => .bl (f i j)) (iOp0 fun i j => .bl (f' i j)) a b c Γ S) Q := by
  unfold eChain
  refine okR.bind (h.mono fun x S1 h => okR.bind (h.mono fun y S2 ⟨i, j, e1, e2, h1, h2⟩ => ?_))
  subst e1 e2
  show okR (match (PV.bl (f i j)) with
      | .bl true => (c Γ S2).bind fun w S4 => R.of (iOp0 (fun i j => .bl (f' i j)) (.int j) w S4)
      | .bl false => .ok (.bl false) S2
      | _ => .bad) Q
  cases hf : f i j with
  | false => exact h2 hf
  | true =>
    refine okR.bind ((h1 hf).mono fun z S3 ⟨k, e, q⟩ => ?_)
    subst e
    exact q
theorem W.kT {A C : Prop} (h : A) : (true = true → A) ∧ (true = false → C) := ⟨fun _ => h, fun z => (by cases z)⟩
theorem W.kF {A C : Prop} (h : C) : (false = true → A) ∧ (false = false → C) := ⟨fun z => (by cases z), fun _ => h⟩
theorem W.kT' {A C : Prop} {k : Bool} (e : k = true) (h : A) : (k = true → A) ∧ (k = false → C) := ⟨fun _ => h, fun z => (by rw [e] at z; cases z)⟩
theorem W.kF' {A C : Prop} {k : Bool} (e : k = false) (h : C) : (k = true → A) ∧ (k = false → C) := ⟨fun z => (by rw [e] at z; cases z), fun _ => h⟩
theorem W.kD {A C : Prop} {p : Prop} [Decidable p] (h1 : p → A) (h2 : ¬ p → C) : (decide p = true → A) ∧ (decide p = false → C) := ⟨fun h => h1 (of_decide_eq_true h), fun h => h2 (of_decide_eq_false h)⟩
theorem W.kND {A C : Prop} {p : Prop} [Decidable p] (h1 : ¬ p → A) (h2 : p → C) : ((!decide p) = true → A) ∧ ((!decide p) = false → C) := ⟨fun h => h1 (by simpa using h), fun h => h2 (by simpa using h)⟩
theorem W.raise0 {cc : Str} (h : rsP (.ex cc [] Γ S) P) : rsP (sRaise0 cc Γ S) P := h
theorem W.raise1 {cc f : Str} (h : okR (as Γ S) fun vs S1 => ∃ w, vs = [w] ∧ rsP (.ex cc [(f, w)] Γ S1) P) : rsP (sRaise1 cc f as Γ S) P := by
  unfold sRaise1
  refine W.st (h.mono fun vs S1 ⟨w, e, q⟩ => ?_)
  subst e
  exact q
theorem W.fld {cs : List Str} {f : Str} {to te : EF} (h : okR (te Γ S) fun v S1 => okR (to Γ S1) fun o S2 => ∃ S3, stF cs f v S2 o = some S3 ∧ rsP (.nx Γ S3) P) : rsP (sFldF cs f to te Γ S) P := by
  unfold sFldF
  refine W.st (h.mono fun v S1 h => W.st (h.mono fun o S2 ⟨S3, e, q⟩ => ?_))
  rw [e]
  exact q
theorem W.get {cs : List Str} {f : Str} (h : okR (a Γ S) fun p S1 => ∃ v, fldP cs f S1 p = some v ∧ Q v S1) : okR (eFld cs f a Γ S) Q := okR.bind (h.mono fun p S1 ⟨v, e, q⟩ => by rw [e]; exact q)
theorem W.fldX {cs : List Str} {f : Str} {to te : EF} {cc : Str} {fs : List (Str × PV)} {S1 : Sto} (e : te Γ S = .ex cc fs S1) (h : rsP (.ex cc fs Γ S1) P) : rsP (sFldF cs f to te Γ S) P := by
  unfold sFldF
  rw [e]
  exact h
/-- a for over range, whatever the body -/
theorem W.forR (h : okR (as Γ S) fun vs S1 => ∃ m : Nat, vs = [.int (m : Nat)] ∧ m < 1000000 ∧ rsP (forL (sTurn (gN i) t) ((List.range m).map fun k : Nat => .int (k : Nat)) Γ S1) P) : rsP (sFor (iR1 as) (gN i) t Γ S) P := by
  refine W.forR1 (h.mono fun vs S1 ⟨m, e, hm, q⟩ => ⟨m, e, hm, ?_⟩)
  have : intsF 0 m = (List.range m).map fun k : Nat => PV.int (k : Nat) := by
    unfold intsF
    refine List.map_congr_left fun k _ => ?_
    simp
  rw [this]
  exact q
theorem lenK {m : Md} {k : Kd} {xs : List PV} {S : Sto} (h : k = .lst ∨ k = .tup) : lenF [.con m k xs] S = some (.int xs.length, S) := by rcases h with rfl | rfl <;> rfl
theorem ixK {m : Md} {k : Kd} {xs : List PV} {S : Sto} {i : Int} {v : PV} (h : k = .lst ∨ k = .tup) (e : L2.atI xs i = some v) : ixF (.con m k xs) (.int i) S = some (v, S) := by
  rcases h with rfl | rfl
  · show (L2.atI xs i).map _ = _
    rw [e]; rfl
  · show (L2.atI xs i).map _ = _
    rw [e]; rfl
theorem enumF_range (xs : List PV) : enumF 0 xs = (List.range xs.length).map fun k : Nat => .con .own .tup [.int (k : Nat), xs.getD k .non] := by
  refine List.ext_getElem? fun j => ?_
  rw [enumF_get, List.getElem?_map]
  by_cases h : j < xs.length
  · rw [List.getElem?_range h, List.getElem?_eq_getElem h]
    simp [List.getElem?_eq_getElem h]
  · rw [List.getElem?_eq_none (by omega), List.getElem?_eq_none (by rw [List.length_range]; omega)]
    rfl
def isOut : RS → Prop
  | .rt _ _ => True
  | .ex _ _ _ _ => True
  | _ => False
/-- turn by turn, any target -/
def forQ (gt : GF) (t : SF) (ps : List PV) (P : RS → Prop) : RS → Prop
  | .nx Γ S => rsP (forL (sTurn gt t) ps Γ S) P
  | .ct Γ S => rsP (forL (sTurn gt t) ps Γ S) P
  | .bk Γ S => P (.nx Γ S)
  | r => P r
theorem W.forK {gt : GF} {p : PV} {ps : List PV} (h : okR (gt p Γ S) fun Γ1 S1 => rsP (t Γ1 S1) (forQ gt t ps P)) : rsP (forL (sTurn gt t) (p :: ps) Γ S) P := by
  obtain ⟨Γ1, S1, e1, h⟩ := h.eq
  unfold rsP at *
  have e : sTurn gt t p Γ S = t Γ1 S1 := by unfold sTurn; rw [e1]; rfl
  unfold forL
  rw [e]
  cases q : t Γ1 S1 with
  | nx Γ1 S1 => rw [q] at h; exact h
  | ct Γ1 S1 => rw [q] at h; exact h
  | bk Γ1 S1 => rw [q] at h; exact h
  | rt v S1 => rw [q] at h; exact h
  | ex c fs Γ1 S1 => rw [q] at h; exact h
  | bad => rw [q] at h; exact h
theorem W.forKN {b : PV → SF} (h : rsP (.nx Γ S) P) : rsP (forL b [] Γ S) P := h
theorem W.forKG {gt : GF} {ps : List PV} (h : rsP (forL (sTurn gt t) ps Γ S) P) : rsP (.nx Γ S) (forQ gt t ps P) := h
theorem W.forKR {gt : GF} {ps : List PV} (h : rsP (.rt v S) P) : rsP (.rt v S) (forQ gt t ps P) := h
theorem W.forKX {gt : GF} {ps : List PV} {cc : Str} {fs : List (Str × PV)} (h : rsP (.ex cc fs Γ S) P) : rsP (.ex cc fs Γ S) (forQ gt t ps P) := h
theorem W.ch3 {d : EF} {f f' f'' : Int → Int → Bool} (h : okR (a Γ S) fun x S1 => okR (b Γ S1) fun y S2 => ∃ i j : Int, x = .int i ∧ y = .int j ∧ (f i j = true → okR (c Γ S2) fun z S3 => ∃ k : Int, z = .int k ∧ (f' j k = true → okR (d Γ S3) fun w S4 => ∃ l : Int, w = .int l ∧ B (f'' k l) S4) ∧ (f' j k = false → B false S3)) ∧ (f i j = false → B false S2)) :
    okR (bCh3 f f' f'' a b c d Γ S) B := by
  obtain ⟨x, S1, e1, h⟩ := h.eq
  obtain ⟨y, S2, e2, i, j, rfl, rfl, h1, h2⟩ := h.eq
  rw [bCh3_eq, e1, ch3K0_ok, e2, ch3K1_ok]
  by_cases c1 : f i j = true
  · rw [if_pos c1]
    obtain ⟨z, S3, e3, k, rfl, h3, h4⟩ := (h1 c1).eq
    rw [e3, ch3K2_ok]
    by_cases c2 : f' j k = true
    · rw [if_pos c2]
      obtain ⟨w, S4, e4, l, rfl, h5⟩ := (h3 c2).eq
      rw [e4, ch3K3_ok]
      exact h5
    · rw [if_neg c2]
      exact h4 (by simpa using c2)
  · rw [if_neg c1]
    exact h2 (by simpa using c1)
theorem W.sl {mu : Bool} {lo hi : OFn} (h : okR (a Γ S) fun p S1 => okR (lo Γ S1) fun l S2 => okR (hi Γ S2) fun u S3 => ∃ z S4, slF mu p l u S3 = some (z, S4) ∧ Q z S4) : okR (eSl mu a lo hi Γ S) Q :=
  okR.bind (h.mono fun _ _ h => okR.bind (h.mono fun _ _ h => okR.bind (h.mono fun _ _ ⟨z, S4, e, q⟩ => by rw [e]; exact q)))
theorem W.turn {gt : GF} {p : PV} (h : okR (gt p Γ S) fun Γ1 S1 => rsP (t Γ1 S1) P) : rsP (sTurn gt t p Γ S) P := by
  obtain ⟨Γ1, S1, e1, h⟩ := h.eq
  have e : sTurn gt t p Γ S = t Γ1 S1 := by unfold sTurn; rw [e1]; rfl
  rw [e]
  exact h
/-- a loop that leaves at the first bad item -/
theorem W.find {α : Type} {gt : GF} (g : α → PV) (I : Gam → Prop) (bad : α → Bool) {l : List α} (hI : I Γ)
    (step : ∀ x ∈ l, ∀ Γ, I Γ → rsP (sTurn gt t (g x) Γ S) fun q => if bad x = true then isOut q ∧ (l.find? bad = some x → P q) else ∃ Γ', q = .nx Γ' S ∧ I Γ')
    (done : l.find? bad = none → ∀ Γ, I Γ → rsP (.nx Γ S) P) : rsP (forL (sTurn gt t) (l.map g) Γ S) P := by
  refine forM_ind g (fun d r Γ' S' => S' = S ∧ I Γ' ∧ l = d ++ r ∧ d.find? bad = none) P (fun d x r Γ' S' ⟨e, i, e2, hd⟩ => ?_) (fun d Γ' S' ⟨e, i, e2, hd⟩ => ?_) l [] Γ S ⟨rfl, hI, rfl, rfl⟩
  · subst e
    have hx : x ∈ l := by rw [e2]; simp
    have q := step x hx Γ' i
    unfold rsP at q
    cases hb : bad x with
    | true =>
      rw [hb, if_pos rfl] at q
      obtain ⟨q1, q2⟩ := q
      have hf : l.find? bad = some x := by rw [e2, List.find?_append, hd]; simp [hb]
      have q2 := q2 hf
      cases hq : sTurn gt t (g x) Γ' S' with
      | rt v S => rw [hq] at q2; exact q2
      | ex c fs Γ S => rw [hq] at q2; exact q2
      | _ => rw [hq] at q1; exact q1.elim
    | false =>
      rw [hb, if_neg (by decide)] at q
      obtain ⟨Γ2, e3, i2⟩ := q
      rw [e3]
      exact ⟨rfl, i2, by rw [e2]; simp, by rw [List.find?_append, hd]; simp [hb]⟩
  · subst e
    rw [List.append_nil] at e2
    exact done (by rw [e2]; exact hd) Γ' i
end
end Pv
local macro_rules | `(tactic| walk_at "s") => `(tactic| first
  | with_reducible refine Pv.W.kT ?_
  | with_reducible refine Pv.W.kF ?_
  | ((with_reducible show (_ = true → _) ∧ (_ = false → _)); first | refine Pv.W.kT' rfl ?_ | refine Pv.W.kF' rfl ?_)
  | with_reducible refine Pv.W.seq ?_
  | (with_reducible refine Pv.W.go ?_; try simp only [List.set_cons_succ, List.set_cons_zero])
  | with_reducible refine Pv.W.goR ?_
  | with_reducible refine Pv.W.goX ?_
  | with_reducible refine Pv.W.goB ?_
  | with_reducible refine Pv.W.forKN ?_
  | with_reducible refine Pv.W.forKG ?_
  | with_reducible refine Pv.W.forKR ?_
  | with_reducible refine Pv.W.forKX ?_
  | with_reducible refine Pv.W.forK ?_
  | with_reducible refine Pv.W.forS ?_
  | (with_reducible refine Pv.W.turn ?_; refine Pv.okR.of rfl ?_; try simp only [List.set_cons_succ, List.set_cons_zero])
  | with_reducible refine Pv.W.forR ?_
  | with_reducible refine Pv.W.ch3 ?_
  | with_reducible refine Pv.W.sl ?_
  | with_reducible refine Pv.W.set ?_
  | with_reducible refine Pv.W.fld ?_
  | with_reducible refine Pv.W.get ?_
  | with_reducible refine Pv.W.ret ?_
  | with_reducible refine Pv.W.expr ?_
  | with_reducible refine Pv.W.next ?_
  | with_reducible refine Pv.W.asg ?_
  | with_reducible refine Pv.W.ite ?_
  | with_reducible refine Pv.W.raise0 ?_
  | with_reducible refine Pv.W.raise1 ?_
  | with_reducible refine Pv.W.con ?_
  | with_reducible refine Pv.W.nil ?_
  | with_reducible refine Pv.W.cons ?_
  | with_reducible refine Pv.W.cmpI ?_
  | with_reducible refine Pv.W.op ?_
  | with_reducible refine Pv.W.chI ?_
  | with_reducible refine Pv.W.bE ?_
  | with_reducible refine Pv.W.or ?_
  | with_reducible refine Pv.W.and ?_
  | with_reducible refine Pv.W.not ?_
  | with_reducible refine Pv.W.bT ?_
  | with_reducible refine Pv.W.eAnd ?_
  | with_reducible refine Pv.W.eOr ?_
  | with_reducible refine Pv.W.eNot ?_
  | with_reducible refine Pv.W.eU ?_
  | with_reducible refine Pv.W.eNeg ?_
  | with_reducible refine Pv.W.eIf ?_
  | with_reducible refine Pv.W.tup ?_
  | with_reducible refine Pv.W.lstF ?_
  | with_reducible refine Pv.W.lstT ?_
  | with_reducible refine Pv.W.call ?_
  | with_reducible refine Pv.W.callW ?_
  | with_reducible refine Pv.W.clP ?_
  | with_reducible refine Pv.W.meth ?_
  | ((with_reducible show Pv.okR (Pv.eV _ _ _) _); refine Pv.W.var rfl ?_)
  | ((with_reducible show Pv.okR (Pv.gU _ _ _ _) _); refine Pv.okR.of rfl ?_)
  | ((with_reducible show Pv.okR (Pv.gN _ _ _ _) _); refine Pv.okR.of rfl ?_)
  | ((with_reducible show ∃ z S3, Pv.ninF (Pv.PV.str _) (Pv.PV.con _ Pv.Kd.tup (List.map Pv.PV.str _)) _ = some (z, S3) ∧ _); refine ⟨_, _, Pv.ninF_strs (Or.inr rfl) _ _, ?_⟩)
  | ((with_reducible show ∃ z S3, Pv.inF (Pv.PV.str _) (Pv.PV.con _ Pv.Kd.tup (List.map Pv.PV.str _)) _ = some (z, S3) ∧ _); refine ⟨_, _, Pv.inF_strs (Or.inr rfl) _ _, ?_⟩)
  | ((with_reducible show ∃ z S3, Pv.lenF [Pv.PV.con _ _ _] _ = some (z, S3) ∧ _); refine ⟨_, _, Pv.lenK (by assumption), ?_⟩)
  | ((with_reducible show ∃ z S3, _ = some (z, S3) ∧ _); refine ⟨_, _, rfl, ?_⟩)
  | ((with_reducible show ∃ k, _ = Pv.PV.bl k ∧ _); refine ⟨_, rfl, ?_⟩)
  | ((with_reducible show ∃ k, _ = Pv.PV.int k ∧ _); refine ⟨_, rfl, ?_⟩)
  | ((with_reducible show ∃ k, Pv.truB _ _ = some k ∧ _); refine ⟨_, rfl, ?_⟩)
  | ((with_reducible show ∃ m ps, (_ = Pv.PV.con m Pv.Kd.lst ps ∨ _ = Pv.PV.con m Pv.Kd.tup ps) ∧ _); first | refine ⟨_, _, Or.inl rfl, ?_⟩ | refine ⟨_, _, Or.inr rfl, ?_⟩)
  | ((with_reducible show Pv.okR (Pv.oN _ _) _); refine Pv.okR.of rfl ?_)
  | ((with_reducible show Pv.okR (Pv.oS (Pv.eC (Pv.PV.int _)) _ _) _); refine Pv.okR.of rfl ?_)
  | ((with_reducible show ∃ S3, Pv.stF _ _ _ _ _ = some S3 ∧ _); refine ⟨_, rfl, ?_⟩)
  | ((with_reducible show ∃ v, Pv.fldP _ _ _ _ = some v ∧ _); refine ⟨_, rfl, ?_⟩)
  | ((with_reducible show ∃ k, [_] = [k] ∧ _); refine ⟨_, rfl, ?_⟩)
  | ((with_reducible show ∃ i j : Int, _ = Pv.PV.int i ∧ _ = Pv.PV.int j ∧ _); refine ⟨_, _, rfl, rfl, ?_⟩)
  | ((with_reducible show _ ≤ PySem.sizeLine ∧ _); refine ⟨Nat.le_of_ble_eq_true rfl, ?_⟩)
  | ((with_reducible show Pv.tyP _ _ _ = true ∧ _); refine ⟨rfl, ?_⟩))
local macro_rules | `(tactic| walk_at "ss") => `(tactic| repeat' walk_at "s")
local macro_rules | `(tactic| walk_at "in") => `(tactic| (refine Pv.W.rdP rfl ?_; simp only [List.map_cons, List.map_nil, List.length_cons, List.length_nil, Nat.reduceAdd, Nat.reduceSub, List.replicate_succ, List.replicate_zero, List.cons_append, List.nil_append, List.replicate]))
/-! G22: all exits of a row in the worklist. -/
namespace Law
open PySem PySem.Spec PyProof.Rows L2 Pv
/-- the depths D agree at every row that they name -/
def ConsD (rows : List Rw) (hds : List Hnd) (D : Nat → Nat) : Prop := ∀ i r, rows[i]? = some r → r.i.rem ≤ D i ∧ ∀ x ∈ exits rows.length hds i r.i, (∀ h, x.2 = some h → h.d ≤ D i) ∧ wantd (D i - r.i.rem + r.i.push) x = D x.1
def TgtOk (rows : List Rw) (hds : List Hnd) : Prop := ∀ i r, rows[i]? = some r → ∀ x ∈ exits rows.length hds i r.i, x.1 < rows.length
/-- either a conflict is allowed, or there is none -/
def Fl (rows : List Rw) (hds : List Hnd) (D : Nat → Nat) (P : RS → Prop) (ds : List (Option Nat)) : Prop := (∀ Γ S, P (.ex "BadDepth" [] Γ S)) ∨ (ConsD rows hds D ∧ ∀ (j d : Nat), ds[j]? = some (some d) → d = D j)
def codeP (rows : List Rw) : PV := .con .own .tup (rows.map fun r => r.i.pv)
def hdsM (m : Md) (hds : List Hnd) : PV := .con m .tup (hds.map Hnd.pv)
abbrev dG (m : Md) (rows : List Rw) (hds : List Hnd) (i dep : Nat) (w : Option PV) (aft : Nat) (y8 y9 y10 : Option PV) : Gam := [some (codeP rows), some (hdsM m hds), some (.ref 0), some (.ref 1), some (.int (i : Nat)), some (.int (dep : Nat)), w, some (.int (aft : Nat)), y8, y9, y10]
structure DJ (m : Md) (rows : List Rw) (hds : List Hnd) (D : Nat → Nat) (P : RS → Prop) (i dep : Nat) (w : Option PV) (aft c : Nat) (r : Itr) (rest : List (Nat × Option Hnd)) (Γ : Gam) (S : Sto) : Prop where
  ex : ∃ ds wt y8 y9 y10, Γ = dG m rows hds i dep w aft y8 y9 y10 ∧ S = dst ds wt ∧ DI rows.length ds wt ∧ cnt ds + wt.length = c ∧ Fl rows hds D P ds ∧ ds[i]? = some (some dep)
  mem : ∀ x ∈ rest, x ∈ exits rows.length hds i r
theorem clean_code (rows : List Rw) : clean (codeP rows) = true := by
  have cl : ∀ rs : List Rw, cleans (rs.map fun r => r.i.pv) = true := fun rs => by
    induction rs with
    | nil => rfl
    | cons a rs ih => simp only [List.map_cons, cleans, clean_itr, ih]; rfl
  exact cl rows
theorem clean_hp {m : Md} (hm : m ≠ .lent) (hds : List Hnd) : clean (hdsM m hds) = true := by
  have := cleans_hnds hds
  cases m <;> simp_all [hdsM, clean]
theorem dinner {m : Md} (hm : m ≠ .lent) {rows : List Rw} {hds : List Hnd} {D : Nat → Nat} {P : RS → Prop} {i : Nat} {r : Rw} {ds : List (Option Nat)} {wt : List Nat} {dep : Nat} {w y8 y9 y10 : Option PV} (hr : rows[i]? = some r) (hz : rows.length < 90000) (tg : TgtOk rows hds)
    (di : DI rows.length ds wt) (hc : cnt ds + wt.length < 95000) (hd : ds[i]? = some (some dep)) (fl : Fl rows hds D P ds)
    (k : ∀ ds' wt' y8 y9 y10, DI rows.length ds' wt' → cnt ds' + wt'.length = cnt ds + wt.length → Fl rows hds D P ds' → rsP (.nx (dG m rows hds i dep w (dep - r.i.rem + r.i.push) y8 y9 y10) (dst ds' wt')) P) :
    rsP (sFor (iAny (eCallP f_moves (aCons (eV 0) (aCons (eV 1) (aCons (eV 4) aNil))))) (gU [8, 9]) l3_depths_of (dG m rows hds i dep w (dep - r.i.rem + r.i.push) y8 y9 y10) (dst ds wt)) P := by
  refine Pv.W.forS (Pv.W.clP (Pv.W.cons (Pv.W.var rfl (Pv.W.cons (Pv.W.var rfl (Pv.W.cons (Pv.W.var rfl (Pv.W.nil ⟨[codeP rows, hdsM m hds, .int (i : Nat)], .con .own .lst ((exits rows.length hds i r.i).map exP), ?_, moves_okM hm rows hds i r hr (by omega), .own, _, Or.inl rfl, ?_⟩))))))))
  · simp only [List.mapM_cons, List.mapM_nil, lend_clean' (clean_code rows), lend_clean' (clean_hp hm hds)]
    rfl
  refine Pv.W.turns exP (fun _ rest Γ S => DJ m rows hds D P i dep w (dep - r.i.rem + r.i.push) (cnt ds + wt.length) r.i rest Γ S) ?_ ?_ ⟨⟨ds, wt, y8, y9, y10, rfl, rfl, di, rfl, fl, hd⟩, fun x h => h⟩
  · intro d x rest Γ S J
    obtain ⟨⟨ds', wt', z8, z9, z10, rfl, rfl, di', hc', fl', hd'⟩, hm⟩ := J
    have hx := hm x (List.mem_cons_self)
    have hlt : x.1 < ds'.length := by rw [di'.len]; exact tg i r hr x hx
    refine ⟨dG m rows hds i dep w (dep - r.i.rem + r.i.push) (some (.int x.1)) (some (hvP x.2)) z10, dst ds' wt', rfl, ?_⟩
    refine dturn (dep := dep) (aft := dep - r.i.rem + r.i.push) hlt (by omega) ?_ ?_
    · rcases fl' with q | ⟨q1, q2⟩
      · exact Or.inl q
      · refine Or.inr ?_
        obtain ⟨c1, c2⟩ := q1 i r hr
        obtain ⟨c3, c4⟩ := c2 x hx
        have e := q2 i dep hd'
        exact ⟨fun h hh => by rw [e]; exact c3 h hh, fun d hd => by rw [e, c4]; exact q2 _ _ hd⟩
    · rintro ds2 wt2 (⟨h1, rfl, rfl⟩ | ⟨h1, rfl, rfl⟩)
      · exact ⟨⟨_, _, _, _, _, rfl, rfl, di', hc', fl', hd'⟩, fun y hy => hm y (List.mem_cons_of_mem _ hy)⟩
      · refine ⟨⟨_, _, _, _, _, rfl, rfl, di'.put h1, ?_, ?_, ?_⟩, fun y hy => hm y (List.mem_cons_of_mem _ hy)⟩
        · have := cnt_set (v := wantd (dep - r.i.rem + r.i.push) x) h1
          rw [List.length_append, List.length_singleton]
          omega
        · rcases fl' with q | ⟨q1, q2⟩
          · exact Or.inl q
          · refine Or.inr ⟨q1, fun j d hj => ?_⟩
            by_cases e : j = x.1
            · subst e
              rw [List.getElem?_set_self hlt] at hj
              cases hj
              rw [q2 i dep hd']
              exact ((q1 i r hr).2 x hx).2
            · rw [List.getElem?_set_ne (Ne.symm e)] at hj
              exact q2 j d hj
        · rw [List.getElem?_set_ne]
          · exact hd'
          · intro e
            rw [e] at h1
            rw [h1] at hd'
            cases hd'
  · intro d Γ S J
    obtain ⟨⟨ds', wt', z8, z9, z10, rfl, rfl, di', hc', fl', hd'⟩, hm⟩ := J
    exact k ds' wt' z8 z9 z10 di' hc' fl'
end Law
/-! G23: depths_of. -/
namespace Law
open PySem PySem.Spec PyProof.Rows L2 Pv
abbrev dG0 (m : Md) (rows : List Rw) (hds : List Hnd) (y4 y5 y6 y7 y8 y9 y10 : Option PV) : Gam := [some (codeP rows), some (hdsM m hds), some (.ref 0), some (.ref 1), y4, y5, y6, y7, y8, y9, y10]
structure DW (m : Md) (rows : List Rw) (hds : List Hnd) (D : Nat → Nat) (P : RS → Prop) (c : Nat) (Γ : Gam) (S : Sto) : Prop where
  ex : ∃ ds wt y4 y5 y6 y7 y8 y9 y10, Γ = dG0 m rows hds y4 y5 y6 y7 y8 y9 y10 ∧ S = dst ds wt ∧ DI rows.length ds wt ∧ cnt ds + wt.length = c ∧ Fl rows hds D P ds
theorem DI.pop {n : Nat} {ds : List (Option Nat)} {wt : List Nat} {i : Nat} (h : DI n ds (wt ++ [i])) : DI n ds wt := ⟨h.len, fun j hj => h.w j (List.mem_append.mpr (Or.inl hj))⟩
theorem dbody {m : Md} (hm : m ≠ .lent) {rows : List Rw} {hds : List Hnd} {D : Nat → Nat} {P : RS → Prop} {ds : List (Option Nat)} {wt : List Nat} {i : Nat} {y4 y5 y6 y7 y8 y9 y10 : Option PV} (hz : rows.length < 90000) (tg : TgtOk rows hds)
    (di : DI rows.length ds (wt ++ [i])) (hc : cnt ds + wt.length < 95000) (fl : Fl rows hds D P ds)
    (k : ∀ ds' wt' y4 y5 y6 y7 y8 y9 y10, DI rows.length ds' wt' → cnt ds' + wt'.length = cnt ds + wt.length → Fl rows hds D P ds' → rsP (.nx (dG0 m rows hds y4 y5 y6 y7 y8 y9 y10) (dst ds' wt')) P) :
    rsP (l5_depths_of (dG0 m rows hds y4 y5 y6 y7 y8 y9 y10) (dst ds (wt ++ [i]))) P := by
  obtain ⟨dep, hd⟩ := di.w i (by simp)
  have hi : i < ds.length := (List.getElem?_eq_some_iff.mp hd).1
  have hir : i < rows.length := by rw [← di.len]; exact hi
  obtain ⟨r, hr⟩ : ∃ r, rows[i]? = some r := ⟨rows[i], List.getElem?_eq_getElem hir⟩
  unfold l5_depths_of
  walk_at "s"
  walk_at "s"
  walk_at "s"
  walk_at "s"
  refine ⟨rfl, Pv.W.nil ⟨.int (i : Nat), dst ds wt, ?_, ?_⟩⟩
  · show lstF _ _ _ _ = _
    unfold lstF
    simp
  walk_at "ss"
  refine ⟨.int (dep : Nat), dst ds wt, ?_, ?_⟩
  · show (ixB (dst ds wt) (.ref 0) (.int (i : Nat))).map _ = _
    rw [ixB_ref (n := 0) (ps := ds.map okd) rfl, atI_nat, List.getElem?_map, hd]
    rfl
  walk_at "ss"
  refine ⟨r.i.pv, dst ds wt, ?_, ?_⟩
  · show (L2.atI (rows.map fun r => r.i.pv) (i : Int)).map _ = _
    rw [atI_nat, List.getElem?_map, hr]
    rfl
  walk_at "ss"
  refine ⟨.str (nm r.i), dst ds wt, by show (ixB _ r.i.pv (.int 0)).map _ = _; rw [nm_ix]; rfl, ?_⟩
  walk_at "ss"
  refine ⟨(dep : Nat), (r.i.rem : Nat), rfl, rem_get r.i, ?_⟩
  walk_at "ss"
  refine Pv.W.kD (fun c => ?_) fun c => ?_
  · walk_at "ss"
    rcases fl with q | ⟨q1, q2⟩
    · exact q _ _
    · have := (q1 i r hr).1
      have := q2 i dep hd
      omega
  walk_at "s"
  walk_at "s"
  unfold r4_depths_of
  walk_at "ss"
  rw [rem_get]
  refine ⟨_, _, rfl, ?_⟩
  walk_at "ss"
  rw [push_get]
  refine ⟨_, _, rfl, ?_⟩
  walk_at "s"
  have ea : ((dep : Int) - (r.i.rem : Nat) + (r.i.push : Nat)) = ((dep - r.i.rem + r.i.push : Nat) : Int) := by omega
  rw [ea]
  exact dinner hm hr hz tg di.pop hc hd fl fun ds' wt' z8 z9 z10 h1 h2 h3 => k ds' wt' _ _ _ _ z8 z9 z10 h1 h2 h3
theorem dloop {m : Md} (hm : m ≠ .lent) {rows : List Rw} {hds : List Hnd} {D : Nat → Nat} {P : RS → Prop} {ds : List (Option Nat)} {wt : List Nat} {y4 y5 y6 y7 y8 y9 y10 : Option PV} (hz : rows.length < 90000) (tg : TgtOk rows hds)
    (di : DI rows.length ds wt) (hc : cnt ds + wt.length < 95000) (fl : Fl rows hds D P ds)
    (k : ∀ ds' Γ, DI rows.length ds' [] → Fl rows hds D P ds' → Γ[2]? = some (some (.ref 0)) → rsP (.nx Γ (dst ds' [])) P) :
    rsP (sWhl (bT (eV 3)) l5_depths_of (dG0 m rows hds y4 y5 y6 y7 y8 y9 y10) (dst ds wt)) P := by
  refine Pv.W.whl (fun c Γ S => c < 95000 ∧ DW m rows hds D P c Γ S) ?_ ⟨hc, ⟨ds, wt, y4, y5, y6, y7, y8, y9, y10, rfl, rfl, di, rfl, fl⟩⟩ (by omega)
  rintro c Γ S ⟨hc, ⟨ds, wt, y4, y5, y6, y7, y8, y9, y10, rfl, rfl, di, e, fl⟩⟩
  walk_at "ss"
  rcases List.eq_nil_or_concat wt with rfl | ⟨wt', i, rfl⟩
  · exact ⟨fun _ => k ds _ di fl rfl, fun h => by cases h⟩
  · rw [List.concat_eq_append] at di e ⊢
    refine ⟨fun h => by simp at h, fun _ => ?_⟩
    rw [List.length_append, List.length_singleton] at e
    refine dbody hm hz tg di (by omega) fl fun ds' wt' z4 z5 z6 z7 z8 z9 z10 h1 h2 h3 => ?_
    exact ⟨cnt ds' + wt'.length, by omega, by omega, ⟨ds', wt', z4, z5, z6, z7, z8, z9, z10, rfl, rfl, h1, rfl, h3⟩⟩
def ini (n : Nat) : List (Option Nat) := some 0 :: List.replicate (n - 1) none
theorem ini_len {n : Nat} (h : 1 ≤ n) : (ini n).length = n := by simp [ini]; omega
theorem ini_get {n j d : Nat} (h : (ini n)[j]? = some (some d)) : j = 0 ∧ d = 0 := by
  cases j with
  | zero => simp [ini] at h; exact ⟨rfl, h.symm⟩
  | succ j => simp [ini, List.getElem?_replicate] at h
theorem dwalk {m : Md} (hm : m ≠ .lent) {rows : List Rw} {hds : List Hnd} {D : Nat → Nat} {P : RS → Prop} (h1 : 1 ≤ rows.length) (h2 : rows.length < 90000) (tg : TgtOk rows hds) (fl : Fl rows hds D P (ini rows.length))
    (k : ∀ ds, ds.length = rows.length → Fl rows hds D P ds → P (.rt (.con .own .tup (ds.map okd)) (dst ds []))) :
    rsP (body_depths_of [some (codeP rows), some (hdsM m hds), none, none, none, none, none, none, none, none, none] []) P := by
  have hl : (rows.map fun r : Rw => r.i.pv).length = rows.length := List.length_map _
  have z : sizeLine = 16777216 := sizeLine_eq
  unfold body_depths_of
  have hmu : eOp (mulF true) (eLst false (aCons (eC .non) aNil)) (eCall lenF (aCons (eV 0) aNil)) [some (codeP rows), some (hdsM m hds), none, none, none, none, none, none, none, none, none] [] = .ok (.ref 0) [some (.lst, List.replicate rows.length .non)] := by
    have e : mulF true (.con .own .lst [.non]) (.int (rows.length : Nat)) [] = some (.ref 0, [some (.lst, List.replicate rows.length .non)]) := by
      unfold mulF
      simp only [derefH]
      rw [if_pos ⟨by omega, by omega, by simp; omega⟩]
      simp
    have e2 : eCall lenF (aCons (eV 0) aNil) [some (codeP rows), some (hdsM m hds), none, none, none, none, none, none, none, none, none] [] = .ok (.int (rows.length : Nat)) [] := by
      show R.ok (PV.int ((rows.map fun r : Rw => r.i.pv).length : Nat)) [] = _
      rw [hl]
    have e3 : eLst false (aCons (eC .non) aNil) [some (codeP rows), some (hdsM m hds), none, none, none, none, none, none, none, none, none] [] = .ok (.con .own .lst [.non]) [] := by
      simp [szl]
    rw [eOp_eq, e3, opK_ok, e2, opK2_ok, e, rof_some]
  walk_at "s"
  walk_at "s"
  rw [hmu]
  unfold okR
  dsimp only
  walk_at "s"
  walk_at "s"
  walk_at "s"
  walk_at "s"
  refine okR.of (v := [some (codeP rows), some (hdsM m hds), some (.ref 0), none, none, none, none, none, none, none, none]) (S := [some (.lst, (ini rows.length).map okd)]) ?_ ?_
  · rw [gSub_eq]
    simp only [eV_s, eV_0, subK_ok, eC_eq, subK2_ok, eV_1]
    rw [setLF_ref (n := 0) (ps := List.replicate rows.length .non) rfl]
    have : ixN (List.replicate rows.length PV.non).length 0 = some 0 := by unfold ixN; rw [if_pos (by omega), if_pos (by rw [List.length_replicate]; omega)]; rfl
    rw [this]
    obtain ⟨w, hw⟩ : ∃ w, rows.length = w + 1 := ⟨rows.length - 1, by omega⟩
    rw [hw]
    simp [ini, List.replicate_succ, okd]
  walk_at "s"
  walk_at "ss"
  refine dloop hm h2 tg (ds := ini rows.length) (wt := [0]) ⟨ini_len h1, fun i hi => by simp at hi; subst hi; exact ⟨0, by simp [ini]⟩⟩ (by have := List.countP_le_length (p := fun x : Option Nat => x.isNone) (l := ini rows.length); rw [ini_len h1] at this; show cnt _ + 1 < _; unfold cnt; omega) fl fun ds' Γ di fl' hΓ => ?_
  walk_at "s"
  unfold r6_depths_of
  refine Pv.W.ret (Pv.W.call (Pv.W.cons (Pv.W.var hΓ (Pv.W.nil ⟨.con .own .tup (ds'.map okd), dst ds' [], rfl, ?_⟩))))
  exact k ds' di.len fl'
theorem cleans_okd : ∀ ds : List (Option Nat), cleans (ds.map okd) = true
  | [] => rfl
  | none :: ds => by simp only [List.map_cons, okd, cleans, cleans_okd ds]; rfl
  | some d :: ds => by simp only [List.map_cons, okd, cleans, cleans_okd ds]; rfl
def depP (ds : List (Option Nat)) : PV := .con .own .tup (ds.map okd)
/-- with depths that agree there is no BadDepth -/
theorem depths_DM {m : Md} (hm : m ≠ .lent) {rows : List Rw} {hds : List Hnd} {D : Nat → Nat} (h1 : 1 ≤ rows.length) (h2 : rows.length < 90000) (tg : TgtOk rows hds) (hD : ConsD rows hds D) (h0 : D 0 = 0) :
    ∃ ds : List (Option Nat), ds.length = rows.length ∧ f_depths_of [codeP rows, hdsM m hds] = .ok (depP ds) ∧ ∀ j d, ds[j]? = some (some d) → d = D j := by
  have h := dwalk hm (D := D) (P := fun r => ∃ ds : List (Option Nat), ds.length = rows.length ∧ rupK r = .ok (depP ds) ∧ ∀ j d, ds[j]? = some (some d) → d = D j) h1 h2 tg (Or.inr ⟨hD, fun j d hj => by obtain ⟨rfl, rfl⟩ := ini_get hj; exact h0.symm⟩) fun ds hl fl => by
    rcases fl with q | ⟨_, q⟩
    · obtain ⟨ds', _, q, _⟩ := q [] []
      rw [rupK_ex] at q; cases q
    · exact ⟨ds, hl, by rw [rupK_rt]; exact resP_clean (cleans_okd ds), q⟩
  have e : f_depths_of [codeP rows, hdsM m hds] = rupK (body_depths_of [some (codeP rows), some (hdsM m hds), none, none, none, none, none, none, none, none, none] []) := by
    unfold f_depths_of; rw [runP_eq (by rfl)]; rfl
  rw [e]
  exact h
end Law
/-! W3: enumerate of lists and tuples. -/
namespace Pv
open PySem PySem.Spec PyProof.Rows L2
theorem W.forE2 {gt : GF} {a : EF} {t : SF} {Γ : Gam} {S : Sto} {P : RS → Prop} (h : okR (a Γ S) fun v S1 => ∃ m k xs, (k = .lst ∨ k = .tup) ∧ v = .con m k xs ∧ rsP (forL (sTurn gt t) (enumF 0 xs) Γ S1) P) : rsP (sFor (iE2 a) gt t Γ S) P := by
  obtain ⟨v, S1, e, m, k, xs, hk, e2, q⟩ := h.eq
  subst e2
  rcases hk with rfl | rfl
  · rw [sFor_eq, iE2_eq, e, ieK2_lst, forK_L]
    exact q
  · rw [sFor_eq, iE2_eq, e, ieK2_tup, forK_L]
    exact q
theorem lendK {S : Sto} {m : Md} {k : Kd} {xs : List PV} (h : cleans xs = true) : lendV S (.con m k xs) = some (.con m k xs) := by
  unfold lendV
  cases m with
  | lent =>
    rw [if_neg (by simp [clean])]
    show (if cleans xs = true then _ else _) = _
    rw [if_pos h]
  | own => rw [if_pos (by simpa [clean] using h)]
  | out => rw [if_pos (by simpa [clean] using h)]
end Pv
/-! U1: which values may stand in code; what the check says of them. -/
namespace Law
open PySem PySem.Spec PyProof.Rows L2 Pv
def tu (xs : List PV) : PV := .con .own .tup xs
def oddC : List PV := [tu [.str "mul"], tu [.str "pop", .int 1], tu [.str "const"], tu [.str "load", .str "A"], tu [.str "jump", .int (-1)], tu [.str "jump", .bl true], .con .own .lst [.str "pop"], .non, .int 5, tu [.str "Pop"]]
inductive CV : PV → Bool → Prop
  | ok (i : Itr) (g : i.good) : CV i.pv true
  | odd (v : PV) (h : v ∈ oddC) : CV v false
theorem odd_fits {v : PV} (h : v ∈ oddC) : f_fits_form [v] = .ok (.bl false) ∧ clean v = true := by
  simp only [oddC, List.mem_cons, List.not_mem_nil, or_false] at h
  rcases h with rfl | rfl | rfl | rfl | rfl | rfl | rfl | rfl | rfl | rfl <;> exact ⟨rfl, rfl⟩
end Law
/-! U2: lines and handlers. -/
namespace Law
open PySem PySem.Spec PyProof.Rows L2 Pv
theorem in_range_int {n a b : Int} : f_in_range [.int n, .int a, .int b] = .ok (.bl (decide (a ≤ n ∧ n ≤ b))) := by
  refine Pv.W.rdP rfl ?_
  unfold body_in_range
  walk_at "ss"
  refine Pv.W.kD (fun h => ?_) fun h => ?_
  · walk_at "ss"
    exact ⟨_, _, rfl, by simp [h]⟩
  · walk_at "ss"
    exact ⟨_, _, rfl, by simp [h]⟩
def oddL : List PV := [.int (-1), .int 1000001, .bl true, .non, .str "1"]
inductive LV : PV → Bool → Prop
  | ok (n : Nat) (h : n ≤ 1000000) : LV (.int n) true
  | odd (v : PV) (h : v ∈ oddL) : LV v false
theorem lv_range {v : PV} {b : Bool} (h : LV v b) : f_in_range [v, .int 0, .int c_LINES] = .ok (.bl b) ∧ clean v = true := by
  cases h with
  | ok n h => exact ⟨by rw [in_range_int, decide_eq_true (by unfold c_LINES; omega)], rfl⟩
  | odd v h =>
    simp only [oddL, List.mem_cons, List.not_mem_nil, or_false] at h
    rcases h with rfl | rfl | rfl | rfl | rfl <;> exact ⟨rfl, rfl⟩
inductive KV : PV → Bool → Prop
  | ok (o : Option Str) (h : ∀ w, o = some w → WdOk w) : KV (okP o) true
  | odd (v : PV) (h : v = .str "A" ∨ v = .int 5) : KV v false
def oddH : List PV := [tu [.int 0, .int 1, .int 0, .int 0], .con .own .lst [.int 0, .int 1, .int 0, .int 0, .non], tu [.int 0, .int 1, .bl true, .int 0, .non], .non, tu [.str "0", .int 1, .int 0, .int 0, .non]]
inductive HV (n : Nat) : PV → Bool → Prop
  | num (s e t d : Int) (k : PV) (b : Bool) (h : KV k b) : HV n (tu [.int s, .int e, .int t, .int d, k]) (decide ((0 ≤ s ∧ s < e ∧ e ≤ n) ∧ (0 ≤ t ∧ t < n) ∧ (0 ≤ d ∧ d ≤ 200)) && b)
  | odd (v : PV) (h : v ∈ oddH) : HV n v false
theorem kv_word {k : PV} {b : Bool} (h : KV k b) : (isNP k = true ∧ b = true) ∨ (isNP k = false ∧ f_is_word [k] = .ok (.bl b)) := by
  cases h with
  | ok o h => cases o with
    | none => exact Or.inl ⟨rfl, rfl⟩
    | some w => exact Or.inr ⟨rfl, is_word_ok (h w rfl)⟩
  | odd v h => rcases h with rfl | rfl <;> exact Or.inr ⟨rfl, rfl⟩
theorem kv_clean {k : PV} {b : Bool} (h : KV k b) : clean k = true := by
  cases h with
  | ok o h => cases o <;> rfl
  | odd v h => rcases h with rfl | rfl <;> rfl
theorem rbl {S : Sto} {b c : Bool} (h : b = c) : resP S (.bl b) = .ok (.bl c) := by rw [h]; rfl
theorem hv_is {n : Nat} {v : PV} {b : Bool} (h : HV n v b) : f_is_handler [v, .int n] = .ok (.bl b) := by
  cases h with
  | num s e t d k b h =>
    walk_at "in"
    unfold body_is_handler
    walk_at "ss"
    unfold r1_is_handler
    walk_at "ss"
    refine ⟨_, _, rfl, in_range_int, ?_⟩
    walk_at "ss"
    refine Pv.W.kND (fun h1 => ?_) fun h1 => ?_
    · walk_at "ss"
      exact ⟨_, _, rfl, rbl (by rw [decide_eq_false (by omega)]; rfl)⟩
    walk_at "ss"
    refine ⟨_, _, rfl, in_range_int, ?_⟩
    walk_at "ss"
    refine Pv.W.kND (fun h2 => ?_) fun h2 => ?_
    · walk_at "ss"
      exact ⟨_, _, rfl, rbl (by rw [decide_eq_false (by omega)]; rfl)⟩
    walk_at "ss"
    refine Pv.W.kD (fun h3 => ?_) fun h3 => ?_
    · walk_at "ss"
      exact ⟨_, _, rfl, rbl (by rw [decide_eq_false (by omega)]; rfl)⟩
    walk_at "ss"
    unfold r0_is_handler
    walk_at "ss"
    refine ⟨_, _, rfl, in_range_int, ?_⟩
    walk_at "ss"
    refine Pv.W.kD (fun h4 => ?_) fun h4 => ?_
    · walk_at "ss"
      refine ⟨_, _, rfl, in_range_int, ?_⟩
      walk_at "ss"
      refine Pv.W.kD (fun h5 => ?_) fun h5 => ?_
      · unfold c_MOST at h5
        walk_at "ss"
        have hd : decide ((0 ≤ s ∧ s < e ∧ e ≤ (n : Int)) ∧ (0 ≤ t ∧ t < (n : Int)) ∧ (0 ≤ d ∧ d ≤ 200)) = true := decide_eq_true (by omega)
        rw [hd]
        rcases kv_word h with ⟨k1, rfl⟩ | ⟨k1, k2⟩
        · refine Pv.W.kT' k1 ?_
          exact ⟨_, _, rfl, rfl⟩
        · refine Pv.W.kF' k1 ?_
          walk_at "ss"
          refine ⟨[k], _, by simp [lend_clean (kv_clean h)], k2, ?_⟩
          walk_at "ss"
          exact ⟨_, _, rfl, rfl⟩
      · unfold c_MOST at h5
        walk_at "ss"
        exact ⟨_, _, rfl, rbl (by rw [decide_eq_false (by omega)]; rfl)⟩
    · walk_at "ss"
      exact ⟨_, _, rfl, rbl (by rw [decide_eq_false (by omega)]; rfl)⟩
  | odd v h =>
    simp only [oddH, List.mem_cons, List.not_mem_nil, or_false] at h
    rcases h with rfl | rfl | rfl | rfl | rfl
    · rfl
    · rfl
    · walk_at "in"
      unfold body_is_handler
      walk_at "ss"
      unfold r1_is_handler
      walk_at "ss"
      refine ⟨_, _, rfl, in_range_int, ?_⟩
      walk_at "ss"
      refine Pv.W.kND (fun h1 => ?_) fun h1 => ?_
      · walk_at "ss"
        exact ⟨_, _, rfl, rfl⟩
      walk_at "ss"
      refine ⟨_, _, rfl, in_range_int, ?_⟩
      walk_at "ss"
      refine Pv.W.kND (fun h2 => ?_) fun h2 => ?_
      · walk_at "ss"
        exact ⟨_, _, rfl, rfl⟩
      walk_at "ss"
      unfold r0_is_handler
      walk_at "ss"
      refine ⟨_, .bl false, rfl, rfl, ?_⟩
      walk_at "ss"
      exact ⟨_, _, rfl, rfl⟩
    · rfl
    · rfl
end Law
/-! U3: what the check finds: the first error of the parts. -/
namespace Law
open PySem PySem.Spec PyProof.Rows L2 Pv
/-- code, lines and handlers that may be passed; with what is said of each value -/
structure Vals where
  cs : List PV
  ls : List PV
  hs : List PV
  cb : Nat → Bool
  lb : Nat → Bool
  hb : Nat → Bool
  hc : ∀ k v, cs[k]? = some v → CV v (cb k)
  hl : ∀ k v, ls[k]? = some v → LV v (lb k)
  hh : ∀ k v, hs[k]? = some v → HV cs.length v (hb k)
  nc : cs.length < 1000
  nl : ls.length < 1000
  nh : hs.length < 1000000
def tgtB (n : Nat) (v : PV) : Bool := match v with
  | .con _ .tup [.str s, .int t] => (decide (s ∈ c_JUMPS)) && decide ((n : Int) ≤ t)
  | _ => false
def lastB (v : PV) : Bool := match v with
  | .con _ .tup (.str s :: _) => decide (s ∈ c_LAST)
  | _ => false
/-- the error: its class, its tag, its index -/
def Vals.bad1 (V : Vals) (k : Nat) : Bool := !V.cb k
def Vals.bad2 (V : Vals) (k : Nat) : Bool := tgtB V.cs.length (V.cs.getD k .non)
def Vals.bad3 (V : Vals) (k : Nat) : Bool := decide (V.cs.length ≤ k) || (decide (V.ls.length ≤ k) || !V.lb k)
def Vals.bad4 (V : Vals) (k : Nat) : Bool := !V.hb k
def mx (i j : Nat) : Nat := if j > i then j else i
def Vals.err (V : Vals) : Option (Str × Str × Option Nat) :=
  if V.cs.length < 1 ∨ 200 < V.cs.length then some ("BadCode", "code", none) else
  match (List.range V.cs.length).find? V.bad1 with
  | some k => some ("BadInstruction", "instruction", some k)
  | none => match (List.range V.cs.length).find? V.bad2 with
    | some k => some ("BadTarget", "target", some k)
    | none => match (List.range (mx V.cs.length V.ls.length)).find? V.bad3 with
      | some k => some ("BadLine", "line", some k)
      | none => match (List.range V.hs.length).find? V.bad4 with
        | some k => some ("BadHandler", "handler", some k)
        | none => if lastB (V.cs.getD (V.cs.length - 1) .non) = true then none else some ("FallsOff", "falls", none)
def errX : Option (Str × Str × Option Nat) → RP
  | none => .ok .non
  | some (c, _, none) => .ex c []
  | some (c, _, some k) => .ex c [("index", .int k)]
/-- how the program's check ends -/
def chkP (x : Option (Str × Str × Option Nat)) (r : RS) : Prop := match r with
  | .nx _ _ => errX x = .ok .non
  | .ex c fs _ _ => errX x = .ex c fs ∧ cleans (fs.map (·.2)) = true
  | _ => False
theorem chk_of {np n : Nat} {body : SF} {args : List PV} {x : Option (Str × Str × Option Nat)} (hl : args.length = np) (h : rsP (body (args.map some ++ List.replicate (n - args.length) none) []) (chkP x)) : runP np n body args = errX x := by
  unfold rsP at h
  rw [runP_eq hl]
  cases e : body (args.map some ++ List.replicate (n - args.length) none) [] with
  | nx Γ S => rw [e] at h; exact h.symm
  | ex c fs Γ S => rw [e] at h; rw [rupK_ex, if_pos h.2]; exact h.1.symm
  | _ => rw [e] at h; exact h.elim
theorem lends_ok {S : Sto} : ∀ {vs : List PV}, (∀ v ∈ vs, clean v = true) → vs.mapM (lendV S) = some vs
  | [], _ => rfl
  | v :: vs, h => by
    rw [List.mapM_cons, lend_clean (h v (by simp)), lends_ok fun w hw => h w (by simp [hw])]
    rfl
theorem hv_clean {n : Nat} {v : PV} {b : Bool} (h : HV n v b) : clean v = true := by
  cases h with
  | num s e t d k b h => simp [tu, clean, cleans, kv_clean h]
  | odd v h =>
    simp only [oddH, List.mem_cons, List.not_mem_nil, or_false] at h
    rcases h with rfl | rfl | rfl | rfl | rfl <;> rfl
theorem cv_clean {v : PV} {b : Bool} (h : CV v b) : clean v = true := by
  cases h with
  | ok i g => exact clean_itr i
  | odd v h => exact (odd_fits h).2
section
variable (V : Vals) {m1 m2 m3 : Md} {k1 k2 k3 : Kd} (q1 : k1 = .lst ∨ k1 = .tup) (q2 : k2 = .lst ∨ k2 = .tup) (q3 : k3 = .lst ∨ k3 = .tup)
include q1 q2 q3
omit q1 q2 q3
abbrev Vals.g0 (V : Vals) (m1 m2 m3 : Md) (k1 k2 k3 : Kd) (x y z u : Option PV) : Gam := [some (.con m1 k1 V.cs), some (.con m2 k2 V.ls), some (.con m3 k3 V.hs), x, y, z, u]
theorem cv_ix {v : PV} {b : Bool} (h : CV v b) (hb : b = true) : ∃ i : Itr, i.good ∧ v = i.pv := by
  cases h with
  | ok i g => exact ⟨i, g, rfl⟩
  | odd v h => cases hb
theorem all_cs (h1 : (List.range V.cs.length).find? V.bad1 = none) {k : Nat} {v : PV} (hv : V.cs[k]? = some v) : ∃ i : Itr, i.good ∧ v = i.pv := by
  have hk := (List.getElem?_eq_some_iff.mp hv).1
  have := List.find?_eq_none.mp h1 k (by simpa using hk)
  exact cv_ix (V.hc k v hv) (by simpa [Vals.bad1] using this)
theorem getD_some {xs : List PV} {k : Nat} (h : k < xs.length) : xs[k]? = some (xs.getD k .non) := by
  rw [List.getElem?_eq_getElem h]; simp [List.getD, List.getElem?_eq_getElem h]
theorem lastB_pv (i : Itr) : lastB i.pv = i.last := by
  rw [← nm_last]
  cases i with
  | op o => cases o <;> rfl
  | _ => rfl
include q1 q2 q3
theorem chk_tail (x y z u : Option PV) (h0 : 1 ≤ V.cs.length ∧ V.cs.length ≤ 200) (h1 : (List.range V.cs.length).find? V.bad1 = none) (h2 : (List.range V.cs.length).find? V.bad2 = none) (h3 : (List.range (mx V.cs.length V.ls.length)).find? V.bad3 = none) (h4 : (List.range V.hs.length).find? V.bad4 = none) :
    rsP (r4_check_parts (V.g0 m1 m2 m3 k1 k2 k3 x y z u) []) (chkP V.err) := by
  have e : V.err = if lastB (V.cs.getD (V.cs.length - 1) .non) = true then none else some ((("FallsOff" : Str), ("falls" : Str), (none : Option Nat)) : Str × Str × Option Nat) := by
    unfold Vals.err
    rw [if_neg (by omega), h1, h2, h3, h4]
  have hv := getD_some (xs := V.cs) (k := V.cs.length - 1) (by omega)
  obtain ⟨i, g, hi⟩ := all_cs V h1 hv
  rw [hi] at e hv
  rw [lastB_pv] at e
  have at1 : L2.atI V.cs (-1) = some i.pv := by
    unfold L2.atI
    rw [show ixN V.cs.length (-1) = some (V.cs.length - 1) by unfold ixN; rw [if_neg (by omega), if_pos (by omega)]; congr 1; omega]
    exact hv
  unfold r4_check_parts
  walk_at "ss"
  refine ⟨_, _, ixK q1 at1, ?_⟩
  walk_at "ss"
  refine ⟨.str (nm i), [], by show (ixB _ i.pv (.int 0)).map _ = _; rw [nm_ix]; rfl, ?_⟩
  walk_at "ss"
  rw [nm_last]
  cases hl : i.last with
  | true =>
    rw [hl, if_pos rfl] at e
    walk_at "ss"
    show errX V.err = _
    rw [e]; rfl
  | false =>
    rw [hl, if_neg (by decide)] at e
    walk_at "ss"
    show errX V.err = _ ∧ _
    rw [e]; exact ⟨rfl, rfl⟩
theorem chk_h (x y z u : Option PV) (h0 : 1 ≤ V.cs.length ∧ V.cs.length ≤ 200) (h1 : (List.range V.cs.length).find? V.bad1 = none) (h2 : (List.range V.cs.length).find? V.bad2 = none) (h3 : (List.range (mx V.cs.length V.ls.length)).find? V.bad3 = none) :
    rsP (r5_check_parts (V.g0 m1 m2 m3 k1 k2 k3 x y z u) []) (chkP V.err) := by
  unfold r5_check_parts
  refine Pv.W.seq (Pv.W.forE2 (Pv.W.var rfl ⟨_, _, _, (by assumption), rfl, ?_⟩))
  rw [enumF_range]
  refine Pv.W.find _ (fun Γ => ∃ x y z u, Γ = V.g0 m1 m2 m3 k1 k2 k3 x y z u) V.bad4 ⟨x, y, z, u, rfl⟩ ?_ ?_
  · rintro k hk Γ ⟨x, y, z, u, rfl⟩
    have hk : k < V.hs.length := by simpa using hk
    have hv := getD_some hk
    have hh := V.hh k _ hv
    unfold l3_check_parts
    walk_at "ss"
    refine ⟨[V.hs.getD k .non, .int V.cs.length], _, lends_ok (by simp only [List.mem_cons, List.not_mem_nil, or_false, forall_eq_or_imp, forall_eq]; exact ⟨hv_clean hh, rfl⟩), hv_is hh, ?_⟩
    walk_at "ss"
    unfold Vals.bad4
    cases hb : V.hb k with
    | true =>
      walk_at "ss"
      exact ⟨_, rfl, _, _, _, _, rfl⟩
    | false =>
      walk_at "ss"
      refine ⟨trivial, fun hf => ?_⟩
      have e : V.err = some ((("BadHandler" : Str), ("handler" : Str), some k) : Str × Str × Option Nat) := by
        unfold Vals.err
        rw [if_neg (by omega), h1, h2, h3]
        have : (List.range V.hs.length).find? V.bad4 = some k := hf
        rw [this]
      show errX V.err = _ ∧ _
      rw [e]; exact ⟨rfl, rfl⟩
  · rintro hf Γ ⟨x, y, z, u, rfl⟩
    exact Pv.W.go (chk_tail V q1 q2 q3 x y z u h0 h1 h2 h3 hf)
theorem chk_l (x y z u : Option PV) (h0 : 1 ≤ V.cs.length ∧ V.cs.length ≤ 200) (h1 : (List.range V.cs.length).find? V.bad1 = none) (h2 : (List.range V.cs.length).find? V.bad2 = none) :
    rsP (r6_check_parts (V.g0 m1 m2 m3 k1 k2 k3 x y z u) []) (chkP V.err) := by
  unfold r6_check_parts
  refine Pv.W.seq (Pv.W.forR ?_)
  walk_at "ss"
  refine ⟨mx V.cs.length V.ls.length, ?_, ?_, ?_⟩
  · have : (fun i j : Int => if j > i then j else i) V.cs.length V.ls.length = (mx V.cs.length V.ls.length : Nat) := by
      show (if (V.ls.length : Int) > V.cs.length then (V.ls.length : Int) else V.cs.length) = _
      unfold mx; split <;> split <;> omega
    exact congrArg (fun x => [PV.int x]) this
  · have := V.nc; have := V.nl; unfold mx; split <;> omega
  refine Pv.W.find _ (fun Γ => ∃ x y z u, Γ = V.g0 m1 m2 m3 k1 k2 k3 x y z u) V.bad3 ⟨x, y, z, u, rfl⟩ ?_ ?_
  · rintro k hk Γ ⟨x, y, z, u, rfl⟩
    have bad : V.bad3 k = true → rsP (sRaise1 "BadLine" "index" (aCons (eV 3) aNil) (V.g0 m1 m2 m3 k1 k2 k3 (some (.int (k : Nat))) y z u) []) (fun q => if V.bad3 k = true then isOut q ∧ ((List.range (mx V.cs.length V.ls.length)).find? V.bad3 = some k → thenS r5_check_parts (chkP V.err) q) else ∃ Γ', q = .nx Γ' [] ∧ ∃ x y z u, Γ' = V.g0 m1 m2 m3 k1 k2 k3 x y z u) := fun hb => by
      rw [hb]
      walk_at "ss"
      refine ⟨trivial, fun hf => ?_⟩
      have e : V.err = some ((("BadLine" : Str), ("line" : Str), some k) : Str × Str × Option Nat) := by
        unfold Vals.err
        rw [if_neg (by omega), h1, h2]
        have : (List.range (mx V.cs.length V.ls.length)).find? V.bad3 = some k := hf
        rw [this]
      show errX V.err = _ ∧ _
      rw [e]; exact ⟨rfl, rfl⟩
    unfold l2_check_parts
    walk_at "ss"
    refine Pv.W.kD (fun c1 => Pv.W.kT (bad (by unfold Vals.bad3; rw [decide_eq_true (by omega)]; rfl))) fun c1 => ?_
    walk_at "ss"
    refine Pv.W.kD (fun c2 => Pv.W.kT (bad (by unfold Vals.bad3; rw [decide_eq_true (p := V.ls.length ≤ k) (by omega)]; simp))) fun c2 => ?_
    have hk2 : k < V.ls.length := by omega
    have hv := getD_some hk2
    have hh := V.hl k _ hv
    walk_at "ss"
    refine ⟨_, _, ixK q2 (by rw [atI_nat]; exact hv), ?_⟩
    walk_at "ss"
    obtain ⟨l1, l2⟩ := lv_range hh
    refine ⟨[V.ls.getD k .non, .int 0, .int c_LINES], _, lends_ok (by simp only [List.mem_cons, List.not_mem_nil, or_false, forall_eq_or_imp, forall_eq]; exact ⟨l2, rfl, rfl⟩), l1, ?_⟩
    walk_at "ss"
    cases hb : V.lb k with
    | false =>
      refine Pv.W.kT (bad ?_)
      unfold Vals.bad3; rw [hb]; simp
    | true =>
      have : V.bad3 k = false := by unfold Vals.bad3; rw [hb, decide_eq_false (by omega), decide_eq_false (by omega)]; rfl
      rw [this]
      walk_at "ss"
      exact ⟨_, rfl, _, _, _, _, rfl⟩
  · rintro hf Γ ⟨x, y, z, u, rfl⟩
    exact Pv.W.go (chk_h V q1 q2 q3 x y z u h0 h1 h2 hf)
omit q1 q2 q3 in
theorem tgtB_pv (n : Nat) (i : Itr) : tgtB n i.pv = match i.tgt with
    | some t => decide (n ≤ t)
    | none => false := by
  cases i with
  | op o => cases o <;> rfl
  | c k => show (decide (("const" : Str) ∈ c_JUMPS) && decide ((n : Int) ≤ k)) = false; rw [jump_t.1]; rfl
  | jp t => show (decide (("jump" : Str) ∈ c_JUMPS) && decide ((n : Int) ≤ (t : Nat))) = decide (n ≤ t); rw [jump_t.2.2.2.2.1]; simp
  | ji t => show (decide (("jumpif" : Str) ∈ c_JUMPS) && decide ((n : Int) ≤ (t : Nat))) = decide (n ≤ t); rw [jump_t.2.2.2.2.2]; simp
  | _ => rfl
theorem chk_t (x y z u : Option PV) (h0 : 1 ≤ V.cs.length ∧ V.cs.length ≤ 200) (h1 : (List.range V.cs.length).find? V.bad1 = none) :
    rsP (r7_check_parts (V.g0 m1 m2 m3 k1 k2 k3 x y z u) []) (chkP V.err) := by
  unfold r7_check_parts
  refine Pv.W.seq (Pv.W.forE2 (Pv.W.var rfl ⟨_, _, _, (by assumption), rfl, ?_⟩))
  rw [enumF_range]
  refine Pv.W.find _ (fun Γ => ∃ x y z u, Γ = V.g0 m1 m2 m3 k1 k2 k3 x y z u) V.bad2 ⟨x, y, z, u, rfl⟩ ?_ ?_
  · rintro k hk Γ ⟨x, y, z, u, rfl⟩
    have hk : k < V.cs.length := by simpa using hk
    have hv := getD_some hk
    obtain ⟨i, g, hi⟩ := all_cs V h1 hv
    have tb := tgtB_pv V.cs.length i
    have hb2 : V.bad2 k = tgtB V.cs.length i.pv := by unfold Vals.bad2; rw [hi]
    rw [hi]
    unfold l1_check_parts
    walk_at "ss"
    refine ⟨.str (nm i), [], by show (ixB _ i.pv (.int 0)).map _ = _; rw [nm_ix]; rfl, ?_⟩
    walk_at "ss"
    rw [nm_jump]
    cases ht : i.tgt with
    | none =>
      rw [ht] at tb
      have tb : tgtB V.cs.length i.pv = false := tb
      rw [hb2, tb]
      walk_at "ss"
      exact ⟨_, rfl, _, _, _, _, rfl⟩
    | some t =>
      rw [ht] at tb
      have tb : tgtB V.cs.length i.pv = decide (V.cs.length ≤ t) := tb
      rw [hb2, tb]
      walk_at "ss"
      refine ⟨.int (t : Nat), [], by show (ixB _ i.pv (.int 1)).map _ = _; rw [tgt_ix ht]; rfl, ?_⟩
      walk_at "ss"
      refine Pv.W.kD (fun c => ?_) fun c => ?_
      · rw [decide_eq_true (by omega)]
        walk_at "ss"
        refine ⟨trivial, fun hf => ?_⟩
        have e : V.err = some ((("BadTarget" : Str), ("target" : Str), some k) : Str × Str × Option Nat) := by
          unfold Vals.err
          rw [if_neg (by omega), h1]
          have : (List.range V.cs.length).find? V.bad2 = some k := hf
          rw [this]
        show errX V.err = _ ∧ _
        rw [e]; exact ⟨rfl, rfl⟩
      · rw [decide_eq_false (by omega)]
        walk_at "ss"
        exact ⟨_, rfl, _, _, _, _, rfl⟩
  · rintro hf Γ ⟨x, y, z, u, rfl⟩
    exact Pv.W.go (chk_l V q1 q2 q3 x y z u h0 h1 hf)
omit q1 q2 q3 in
theorem cv_fits {v : PV} {b : Bool} (h : CV v b) : f_fits_form [v] = .ok (.bl b) := by
  cases h with
  | ok i g => exact fits_ok i g
  | odd v h => exact (odd_fits h).1
theorem check_ok : f_check_parts [.con m1 k1 V.cs, .con m2 k2 V.ls, .con m3 k3 V.hs] = errX V.err := by
  refine chk_of rfl ?_
  show rsP (body_check_parts (V.g0 m1 m2 m3 k1 k2 k3 none none none none) []) _
  unfold body_check_parts
  have code : ¬ (1 ≤ V.cs.length ∧ V.cs.length ≤ 200) → V.err = some ((("BadCode" : Str), ("code" : Str), none) : Str × Str × Option Nat) := fun q => by
    unfold Vals.err; rw [if_pos (by omega)]
  walk_at "ss"
  refine Pv.W.kD (fun c1 => ?_) fun c1 => ?_
  rotate_left
  · walk_at "ss"
    show errX V.err = _ ∧ _
    rw [code (by omega)]; exact ⟨rfl, rfl⟩
  walk_at "ss"
  refine Pv.W.kND (fun c2 => ?_) fun c2 => ?_
  · walk_at "ss"
    show errX V.err = _ ∧ _
    unfold c_MOST at c2
    rw [code (by omega)]; exact ⟨rfl, rfl⟩
  unfold c_MOST at c2
  have h0 : 1 ≤ V.cs.length ∧ V.cs.length ≤ 200 := by omega
  walk_at "ss"
  unfold r8_check_parts
  refine Pv.W.seq (Pv.W.forE2 (Pv.W.var rfl ⟨_, _, _, (by assumption), rfl, ?_⟩))
  rw [enumF_range]
  refine Pv.W.find _ (fun Γ => ∃ x y z u, Γ = V.g0 m1 m2 m3 k1 k2 k3 x y z u) V.bad1 ⟨none, none, none, none, rfl⟩ ?_ ?_
  · rintro k hk Γ ⟨x, y, z, u, rfl⟩
    have hk : k < V.cs.length := by simpa using hk
    have hv := getD_some hk
    have hh := V.hc k _ hv
    unfold l0_check_parts
    walk_at "ss"
    refine ⟨[V.cs.getD k .non], _, lends_ok (by simp only [List.mem_cons, List.not_mem_nil, or_false, forall_eq]; exact cv_clean hh), cv_fits hh, ?_⟩
    walk_at "ss"
    unfold Vals.bad1
    cases hb : V.cb k with
    | true =>
      walk_at "ss"
      exact ⟨_, rfl, _, _, _, _, rfl⟩
    | false =>
      walk_at "ss"
      refine ⟨trivial, fun hf => ?_⟩
      have e : V.err = some ((("BadInstruction" : Str), ("instruction" : Str), some k) : Str × Str × Option Nat) := by
        unfold Vals.err
        rw [if_neg (by omega)]
        have : (List.range V.cs.length).find? V.bad1 = some k := hf
        rw [this]
      show errX V.err = _ ∧ _
      rw [e]; exact ⟨rfl, rfl⟩
  · rintro hf Γ ⟨x, y, z, u, rfl⟩
    exact Pv.W.go (chk_t V q1 q2 q3 x y z u h0 hf)
end
end Law
/-! U4: Unit(..) of any parts. -/
namespace Law
open PySem PySem.Spec PyProof.Rows L2 Pv
def unitM (ml mh : Md) (cs ls hs : List PV) (d : PV) : PV := .con .own (.ins "Unit" ["code", "lines", "handlers", "found_depths"]) [.con .own .tup cs, .con ml .tup ls, .con mh .tup hs, d]
def tm (m : Md) (k : Kd) : Md := match k with
  | .tup => m
  | _ => .own
theorem tupK (S : Sto) {m : Md} {k : Kd} {xs : List PV} (h : k = .lst ∨ k = .tup) : tupleF [.con m k xs] S = some (.con (tm m k) .tup xs, S) := by
  rcases h with rfl | rfl <;> rfl
theorem cleans_of {xs : List PV} (h : ∀ (k : Nat) (v : PV), xs[k]? = some v → clean v = true) : cleans xs = true := by
  induction xs with
  | nil => rfl
  | cons x xs ih =>
    simp only [cleans, Bool.and_eq_true]
    exact ⟨h 0 x rfl, ih fun k v hk => h (k + 1) v (by simpa using hk)⟩
section
variable (V : Vals)
theorem Vals.cc : cleans V.cs = true := cleans_of fun k v h => cv_clean (V.hc k v h)
theorem Vals.cl : cleans V.ls = true := cleans_of fun k v h => (lv_range (V.hl k v h)).2
theorem Vals.ch : cleans V.hs = true := cleans_of fun k v h => hv_clean (V.hh k v h)
section
variable {m1 m2 m3 : Md} {k1 k2 k3 : Kd} (q1 : k1 = .lst ∨ k1 = .tup) (q2 : k2 = .lst ∨ k2 = .tup) (q3 : k3 = .lst ∨ k3 = .tup)
theorem mapM3 {S : Sto} {xs ys zs : List PV} (h1 : cleans xs = true) (h2 : cleans ys = true) (h3 : cleans zs = true) : [PV.con m1 k1 xs, .con m2 k2 ys, .con m3 k3 zs].mapM (lendV S) = some [.con m1 k1 xs, .con m2 k2 ys, .con m3 k3 zs] := by
  simp only [List.mapM_cons, List.mapM_nil, lendK h1, lendK h2, lendK h3]
  rfl
abbrev uG (V : Vals) (m1 m2 m3 : Md) (k1 k2 k3 : Kd) : Gam := [some (.ref 0), some (.con m1 k1 V.cs), some (.con m2 k2 V.ls), some (.con m3 k3 V.hs)]
theorem init_eq : i_Unit_init [.con m1 k1 V.cs, .con m2 k2 V.ls, .con m3 k3 V.hs] = match body_Unit_init (uG V m1 m2 m3 k1 k2 k3) [some (.ins "Unit" [], [])] with
    | .nx _ S => resP S (.ref 0)
    | .rt .non S => resP S (.ref 0)
    | .ex c fs _ S => if cleans (fs.map (·.2)) = true then .ex c fs else .bad
    | _ => .bad := rfl
include q1 q2 q3
variable (o1 : tm m1 k1 = .own) (o2 : tm m2 k2 ≠ .lent) (o3 : tm m3 k3 ≠ .lent)
include o1 o2 o3
theorem unit_dep0 (hv : V.err = none) {rows : List Rw} {hds : List Hnd} (hr : V.cs = rows.map (fun r => r.i.pv)) (hh : V.hs = hds.map Hnd.pv) :
    (∀ ds, f_depths_of [codeP rows, hdsM (tm m3 k3) hds] = .ok (depP ds) → i_Unit_init [.con m1 k1 V.cs, .con m2 k2 V.ls, .con m3 k3 V.hs] = .ok (unitM (tm m2 k2) (tm m3 k3) V.cs V.ls V.hs (depP ds))) ∧
    (f_depths_of [codeP rows, hdsM (tm m3 k3) hds] = .ex "BadDepth" [] → i_Unit_init [.con m1 k1 V.cs, .con m2 k2 V.ls, .con m3 k3 V.hs] = .ex "BadDepth" []) := by
  have ck := check_ok V q1 q2 q3 (m1 := m1) (m2 := m2) (m3 := m3)
  rw [hv] at ck
  have cp : codeP rows = .con .own .tup V.cs := by rw [hr]; rfl
  have hp : hdsM (tm m3 k3) hds = .con (tm m3 k3) .tup V.hs := by rw [hh]; rfl
  have l3 : ∀ S : Sto, [PV.con .own .tup V.cs, .con (tm m3 k3) .tup V.hs].mapM (lendV S) = some [.con .own .tup V.cs, .con (tm m3 k3) .tup V.hs] := fun S => by
    simp only [List.mapM_cons, List.mapM_nil, lendK V.cc, lendK V.ch]
    rfl
  refine ⟨?_, ?_⟩
  · rw [cp, hp]
    intro ds hd
    have : rsP (body_Unit_init (uG V m1 m2 m3 k1 k2 k3) [some (.ins "Unit" [], [])]) (fun r => ∃ Γ, r = .nx Γ [some (.ins "Unit" ["code", "lines", "handlers", "found_depths"], [.con .own .tup V.cs, .con (tm m2 k2) .tup V.ls, .con (tm m3 k3) .tup V.hs, depP ds])]) := by
      unfold body_Unit_init
      walk_at "ss"
      refine ⟨_, _, mapM3 V.cc V.cl V.ch, ck, ?_⟩
      walk_at "ss"
      refine ⟨_, _, tupK _ q1, ?_⟩
      rw [o1]
      walk_at "ss"
      refine ⟨_, _, tupK _ q2, ?_⟩
      walk_at "ss"
      refine ⟨_, _, tupK _ q3, ?_⟩
      walk_at "ss"
      refine ⟨_, _, l3 _, hd, ?_⟩
      walk_at "ss"
      exact ⟨_, rfl⟩
    obtain ⟨Γ, e⟩ := this
    rw [init_eq, e]
    refine resP_ref (n := 0) (k := .ins "Unit" ["code", "lines", "handlers", "found_depths"]) rfl ?_
    have c2 : clean (.con (tm m2 k2) .tup V.ls) = true := by
      revert o2; cases tm m2 k2 <;> simp [clean, V.cl]
    have c3 : clean (.con (tm m3 k3) .tup V.hs) = true := by
      revert o3; cases tm m3 k3 <;> simp [clean, V.ch]
    simp only [cleans, c2, c3]
    simp only [clean, V.cc, cleans_okd, depP]
    rfl
  · rw [cp, hp]
    intro hd
    have : rsP (body_Unit_init (uG V m1 m2 m3 k1 k2 k3) [some (.ins "Unit" [], [])]) (fun r => ∃ Γ S, r = .ex "BadDepth" [] Γ S) := by
      unfold body_Unit_init
      generalize h4 : sFldF ["Unit"] "found_depths" (eV 0) (eCallP f_depths_of (aCons (eFld ["Unit"] "code" (eV 0)) (aCons (eFld ["Unit"] "handlers" (eV 0)) aNil))) = s4
      walk_at "ss"
      refine ⟨_, _, mapM3 V.cc V.cl V.ch, ck, ?_⟩
      walk_at "ss"
      refine ⟨_, _, tupK _ q1, ?_⟩
      rw [o1]
      walk_at "ss"
      refine ⟨_, _, tupK _ q2, ?_⟩
      walk_at "ss"
      refine ⟨_, _, tupK _ q3, ?_⟩
      walk_at "ss"
      rw [← h4]
      refine Pv.W.fldX (S1 := [some (.ins "Unit" ["code", "lines", "handlers"], [.con .own .tup V.cs, .con (tm m2 k2) .tup V.ls, .con (tm m3 k3) .tup V.hs])]) ?_ ⟨_, _, rfl⟩
      rw [eCallP_eq]
      have e1 : aCons (eFld ["Unit"] "code" (eV 0)) (aCons (eFld ["Unit"] "handlers" (eV 0)) aNil) (uG V m1 m2 m3 k1 k2 k3) [some (.ins "Unit" ["code", "lines", "handlers"], [.con .own .tup V.cs, .con (tm m2 k2) .tup V.ls, .con (tm m3 k3) .tup V.hs])] = .ok [.con .own .tup V.cs, .con (tm m3 k3) .tup V.hs] [some (.ins "Unit" ["code", "lines", "handlers"], [.con .own .tup V.cs, .con (tm m2 k2) .tup V.ls, .con (tm m3 k3) .tup V.hs])] := rfl
      refine Eq.trans (congrArg (calPK f_depths_of) e1) ?_
      rw [calPK_ok, l3, calPK2_some, hd, calPK3_ex]
    obtain ⟨Γ, S, e⟩ := this
    rw [init_eq, e]
    rfl
end
end
end Law
/-! U5: a small program is a unit. -/
namespace Law
open PySem PySem.Spec PyProof.Rows L2 Pv
/-- a program whose handlers are few and low -/
structure Small (rows : List Rw) (hds : List Hnd) : Prop where
  pr : Prog rows hds
  few : hds.length ≤ rows.length
  low : ∀ x ∈ hds, x.d ≤ 200
section
variable {rows : List Rw} {hds : List Hnd}
def pvs (rows : List Rw) : List PV := rows.map fun r => r.i.pv
def lns (rows : List Rw) : List PV := rows.map fun r => .int r.l
def hvs (hds : List Hnd) : List PV := hds.map Hnd.pv
theorem Small.row (s : Small rows hds) {i : Nat} {r : Rw} (h : rows[i]? = some r) : r.good := by
  obtain ⟨D, _, sg⟩ := s.pr.dep
  exact (sg.row i r h).good
theorem Small.hnd (s : Small rows hds) {x : Hnd} (h : x ∈ hds) : x.good ∧ x.s < x.e ∧ x.e < rows.length ∧ x.t < rows.length := by
  obtain ⟨D, _, sg⟩ := s.pr.dep
  have := sg.hd x h
  have := s.pr.pos
  exact ⟨(sg.hd x h).good, (sg.hd x h).se, by have := (sg.hd x h).e1; omega, by have := (sg.hd x h).t1; omega⟩
theorem Small.kv (s : Small rows hds) {x : Hnd} (h : x ∈ hds) : KV (okP x.k) true := by
  exact .ok x.k fun w e => ((s.hnd h).1 w e).1
def Small.vals (s : Small rows hds) : Vals where
  cs := pvs rows
  ls := lns rows
  hs := hvs hds
  cb := fun _ => true
  lb := fun _ => true
  hb := fun _ => true
  hc := fun k v h => by
    unfold pvs at h
    rw [List.getElem?_map] at h
    obtain ⟨r, hr, rfl⟩ := Option.map_eq_some_iff.mp h
    exact .ok r.i (s.row hr).1
  hl := fun k v h => by
    unfold lns at h
    rw [List.getElem?_map] at h
    obtain ⟨r, hr, rfl⟩ := Option.map_eq_some_iff.mp h
    exact .ok r.l (s.row hr).2
  hh := fun k v h => by
    unfold hvs at h
    rw [List.getElem?_map] at h
    obtain ⟨x, hx, rfl⟩ := Option.map_eq_some_iff.mp h
    have hm := List.mem_of_getElem? hx
    obtain ⟨g, h1, h2, h3⟩ := s.hnd hm
    have h4 := s.low x hm
    have q := HV.num (n := (pvs rows).length) (x.s : Int) (x.e : Int) (x.t : Int) (x.d : Int) (okP x.k) true (s.kv hm)
    have e : (decide ((0 ≤ (x.s : Int) ∧ (x.s : Int) < x.e ∧ (x.e : Int) ≤ ((pvs rows).length : Nat)) ∧ (0 ≤ (x.t : Int) ∧ (x.t : Int) < ((pvs rows).length : Nat)) ∧ (0 ≤ (x.d : Int) ∧ (x.d : Int) ≤ 200)) && true) = true := by
      rw [Bool.and_true]
      have : (pvs rows).length = rows.length := List.length_map _
      rw [this]
      exact decide_eq_true ⟨⟨by omega, by omega, by omega⟩, ⟨by omega, by omega⟩, by omega, by omega⟩
    rw [e] at q
    exact q
  nc := by have := s.pr.len; show (rows.map _).length < _; rw [List.length_map]; omega
  nl := by have := s.pr.len; show (rows.map _).length < _; rw [List.length_map]; omega
  nh := by have := s.pr.len; have := s.few; show (hds.map _).length < _; rw [List.length_map]; omega
theorem Small.err (s : Small rows hds) : s.vals.err = none := by
  have n1 : s.vals.cs.length = rows.length := List.length_map _
  have n2 : s.vals.ls.length = rows.length := List.length_map _
  have p1 := s.pr.len
  have p2 := s.pr.pos
  have f1 : (List.range s.vals.cs.length).find? s.vals.bad1 = none := List.find?_eq_none.mpr fun k _ => by simp [Vals.bad1, Small.vals]
  have f4 : (List.range s.vals.hs.length).find? s.vals.bad4 = none := List.find?_eq_none.mpr fun k _ => by simp [Vals.bad4, Small.vals]
  have f3 : (List.range (mx s.vals.cs.length s.vals.ls.length)).find? s.vals.bad3 = none := List.find?_eq_none.mpr fun k hk => by
    have hk : k < mx s.vals.cs.length s.vals.ls.length := by simpa using hk
    unfold mx at hk
    rw [n1, n2] at hk
    simp only [Nat.lt_irrefl, gt_iff_lt, if_false] at hk
    unfold Vals.bad3
    rw [n1, n2, decide_eq_false (by omega)]
    simp [Small.vals]
  have at_ : ∀ (k : Nat) (r : Rw), rows[k]? = some r → s.vals.cs.getD k .non = r.i.pv := fun k r hr => by
    have : s.vals.cs[k]? = some r.i.pv := by show (rows.map _)[k]? = _; rw [List.getElem?_map, hr]; rfl
    simp [List.getD, this]
  have f2 : (List.range s.vals.cs.length).find? s.vals.bad2 = none := List.find?_eq_none.mpr fun k hk => by
    have hk : k < rows.length := by rw [← n1]; simpa using hk
    obtain ⟨r, hr⟩ : ∃ r, rows[k]? = some r := ⟨rows[k], List.getElem?_eq_getElem hk⟩
    unfold Vals.bad2
    rw [at_ k r hr, tgtB_pv, n1]
    obtain ⟨D, _, sg⟩ := s.pr.dep
    cases ht : r.i.tgt with
    | none => simp
    | some t =>
      have := ((sg.row k r hr).tgt t ht).2.1
      simp
      omega
  obtain ⟨r, hr, hl⟩ := s.pr.last
  unfold Vals.err
  rw [if_neg (by omega), f1, f2, f3, f4]
  show (if lastB (s.vals.cs.getD (s.vals.cs.length - 1) .non) = true then none else _) = none
  rw [n1, at_ _ r hr, lastB_pv, hl, if_pos rfl]
theorem Small.cons (s : Small rows hds) : ∃ D : Nat → Nat, D 0 = 0 ∧ ConsD rows hds D := by
  obtain ⟨D, d0, sg⟩ := s.pr.dep
  refine ⟨D, d0, fun i r hr => ⟨by have := (sg.row i r hr).rem; rwa [Nat.zero_add] at this, fun x hx => ?_⟩⟩
  have rk := sg.row i r hr
  rw [Nat.zero_add] at rk
  unfold exits at hx
  rcases List.mem_append.mp hx with hx | hx
  · rcases List.mem_append.mp hx with hx | hx
    · unfold exN at hx
      split at hx
      · rename_i c
        simp at hx; subst hx
        exact ⟨fun h e => (by cases e), (rk.nxt c.1).symm⟩
      · simp at hx
    · unfold exJ at hx
      split at hx
      · rename_i t ht
        simp at hx; subst hx
        exact ⟨fun h e => (by cases e), (rk.tgt t ht).2.2.symm⟩
      · simp at hx
  · unfold exH at hx
    split at hx
    · rename_i k hk
      split at hx
      · rename_i h hf
        simp at hx; subst hx
        have hm := List.mem_of_find?_eq_some hf
        have hp := List.find?_some hf
        have hd := sg.hd h hm
        unfold rcv at hp
        simp only [Bool.and_eq_true, decide_eq_true_eq] at hp
        refine ⟨fun h' e => ?_, hd.dt.symm⟩
        cases e
        exact hd.cov i hp.1.1 hp.1.2
      · simp at hx
    · simp at hx
theorem Small.tgt (s : Small rows hds) : TgtOk rows hds := by
  obtain ⟨D, d0, sg⟩ := s.pr.dep
  have := s.pr.pos
  intro i r hr x hx
  have rk := sg.row i r hr
  unfold exits at hx
  rcases List.mem_append.mp hx with hx | hx
  · rcases List.mem_append.mp hx with hx | hx
    · unfold exN at hx
      split at hx
      · rename_i c
        simp at hx; subst hx
        exact c.2
      · simp at hx
    · unfold exJ at hx
      split at hx
      · rename_i t ht
        simp at hx; subst hx
        have := (rk.tgt t ht).2.1
        show t < _
        omega
      · simp at hx
  · unfold exH at hx
    split at hx
    · split at hx
      · rename_i h hf
        simp at hx; subst hx
        have hd := (sg.hd h (List.mem_of_find?_eq_some hf)).t1
        show h.t < _
        omega
      · simp at hx
    · simp at hx
/-- the unit of a small program -/
theorem Small.unit (s : Small rows hds) {m1 m2 m3 : Md} {k1 k2 k3 : Kd} (q1 : k1 = .lst ∨ k1 = .tup) (q2 : k2 = .lst ∨ k2 = .tup) (q3 : k3 = .lst ∨ k3 = .tup) (o1 : tm m1 k1 = .own) (o2 : tm m2 k2 ≠ .lent) (o3 : tm m3 k3 ≠ .lent) :
    ∃ (D : Nat → Nat) (ds : List (Option Nat)), D 0 = 0 ∧ ConsD rows hds D ∧ ds.length = rows.length ∧ (∀ j d, ds[j]? = some (some d) → d = D j) ∧ f_depths_of [codeP rows, hdsM (tm m3 k3) hds] = .ok (depP ds) ∧
      i_Unit_init [.con m1 k1 (pvs rows), .con m2 k2 (lns rows), .con m3 k3 (hvs hds)] = .ok (unitM (tm m2 k2) (tm m3 k3) (pvs rows) (lns rows) (hvs hds) (depP ds)) := by
  obtain ⟨D, d0, cd⟩ := s.cons
  obtain ⟨ds, hl, hd, hD⟩ := depths_DM o3 s.pr.pos (by have := s.pr.len; omega) s.tgt cd d0
  exact ⟨D, ds, d0, cd, hl, hD, hd, (unit_dep0 s.vals q1 q2 q3 o1 o2 o3 s.err rfl rfl).1 ds hd⟩
end
end Law
namespace Law
open PySem PySem.Spec PyProof.Rows L2 Pv
/-! law_like: the same data -/
mutual
def same : PV → PV → Bool
  | .non, .non => true
  | .bl a, .bl b => decide (a = b)
  | .int a, .int b => decide (a = b)
  | .str a, .str b => decide (a = b)
  | .con _ .tup xs, .con _ .tup ys => sames xs ys
  | .con _ .lst xs, .con _ .lst ys => sames xs ys
  | _, _ => false
def sames : List PV → List PV → Bool
  | [], [] => true
  | x :: xs, y :: ys => same x y && sames xs ys
  | _, _ => false
end
mutual
/-- data of depth n at most -/
def dat : Nat → PV → Prop
  | _, .non => True
  | _, .bl _ => True
  | _, .int _ => True
  | _, .str _ => True
  | n + 1, .con m k xs => (k = .tup ∨ k = .lst) ∧ m ≠ .lent ∧ xs.length < 1000000000 ∧ dats n xs
  | _, _ => False
def dats : Nat → List PV → Prop
  | _, [] => True
  | n, x :: xs => dat n x ∧ dats n xs
end
end Law
namespace Law
open PySem PySem.Spec PyProof.Rows L2 Pv
/-! == of data -/
mutual
def pd : PV → PyData
  | .bl b => .bool b
  | .int i => .int i
  | .str s => .str s
  | .con _ .tup xs => .tuple (pds xs)
  | .con _ .lst xs => .list (pds xs)
  | _ => .none
def pds : List PV → List PyData
  | [] => []
  | x :: xs => pd x :: pds xs
end
mutual
theorem toPD_dat {S : Sto} : ∀ (n : Nat) (p : PV) (k : Nat), dat n p → n < k → toPD k S p = some (pd p)
  | n, .non, k, _, h => by cases k <;> first | omega | rfl
  | n, .bl _, k, _, h => by cases k <;> first | omega | rfl
  | n, .int _, k, _, h => by cases k <;> first | omega | rfl
  | n, .str _, k, _, h => by cases k <;> first | omega | rfl
  | 0, .con _ _ _, k, h, _ => by simp [dat] at h
  | n, .ref _, k, h, _ => by cases n <;> simp [dat] at h
  | n, .fn _, k, h, _ => by cases n <;> simp [dat] at h
  | n, .ty _, k, h, _ => by cases n <;> simp [dat] at h
  | n + 1, .con m kd xs, k, h, hk => by
    obtain ⟨j, rfl⟩ : ∃ j, k = j + 1 := ⟨k - 1, by omega⟩
    simp only [dat] at h
    have := toPDs_dat (S := S) n xs j h.2.2.2 (by omega)
    rcases h.1 with rfl | rfl <;> simp [toPD, this, pd]
theorem toPDs_dat {S : Sto} : ∀ (n : Nat) (ps : List PV) (k : Nat), dats n ps → n < k → ps.mapM (toPD k S) = some (pds ps)
  | n, [], k, _, _ => rfl
  | n, x :: xs, k, h, hk => by
    simp only [dats] at h
    simp [List.mapM_cons, toPD_dat (S := S) n x k h.1 hk, toPDs_dat (S := S) n xs k h.2 hk, pds]
end
def eqq (p q : PV) : Bool := PyData.eqv (pd p) (pd q)
mutual
/-- without truth values -/
def nb : PV → Bool
  | .bl _ => false
  | .con _ _ xs => nbs xs
  | _ => true
def nbs : List PV → Bool
  | [] => true
  | x :: xs => nb x && nbs xs
end
mutual
theorem same_eqq : ∀ {n m : Nat} {p q : PV}, dat n p → dat m q → nb p = true → nb q = true → eqq p q = true → same p q = true
  | n, m, .non, q, hp, hq, _, bq, h => by
    cases q with
    | con _ k _ => cases m <;> simp [dat] at hq; rcases hq.1 with rfl | rfl <;> simp [eqq, pd, PyData.eqv] at h
    | ref _ => cases m <;> simp [dat] at hq
    | fn _ => cases m <;> simp [dat] at hq
    | ty _ => cases m <;> simp [dat] at hq
    | _ => simp_all [eqq, pd, PyData.eqv, same, nb]
  | n, m, .int a, q, hp, hq, _, bq, h => by
    cases q with
    | con _ k _ => cases m <;> simp [dat] at hq; rcases hq.1 with rfl | rfl <;> simp [eqq, pd, PyData.eqv] at h
    | ref _ => cases m <;> simp [dat] at hq
    | fn _ => cases m <;> simp [dat] at hq
    | ty _ => cases m <;> simp [dat] at hq
    | _ => simp_all [eqq, pd, PyData.eqv, same, nb]
  | n, m, .str a, q, hp, hq, _, bq, h => by
    cases q with
    | con _ k _ => cases m <;> simp [dat] at hq; rcases hq.1 with rfl | rfl <;> simp [eqq, pd, PyData.eqv] at h
    | ref _ => cases m <;> simp [dat] at hq
    | fn _ => cases m <;> simp [dat] at hq
    | ty _ => cases m <;> simp [dat] at hq
    | _ => simp_all [eqq, pd, PyData.eqv, same, nb]
  | n, m, .bl a, q, hp, hq, bp, bq, h => by simp [nb] at bp
  | n, m, .ref _, q, hp, hq, bp, bq, h => by cases n <;> simp [dat] at hp
  | n, m, .fn _, q, hp, hq, bp, bq, h => by cases n <;> simp [dat] at hp
  | n, m, .ty _, q, hp, hq, bp, bq, h => by cases n <;> simp [dat] at hp
  | 0, m, .con _ _ _, q, hp, hq, bp, bq, h => by simp [dat] at hp
  | n + 1, m, .con md k xs, q, hp, hq, bp, bq, h => by
    simp only [dat] at hp
    simp only [nb] at bp
    cases q with
    | con md' k' ys =>
      cases m with
      | zero => simp [dat] at hq
      | succ m =>
        simp only [dat] at hq
        simp only [nb] at bq
        rcases hp.1 with rfl | rfl <;> rcases hq.1 with rfl | rfl
        · simp only [eqq, pd, PyData.eqv] at h
          simp only [same]
          exact sames_eqq hp.2.2.2 hq.2.2.2 bp bq h
        · simp [eqq, pd, PyData.eqv] at h
        · simp [eqq, pd, PyData.eqv] at h
        · simp only [eqq, pd, PyData.eqv] at h
          simp only [same]
          exact sames_eqq hp.2.2.2 hq.2.2.2 bp bq h
    | ref _ => cases m <;> simp [dat] at hq
    | fn _ => cases m <;> simp [dat] at hq
    | ty _ => cases m <;> simp [dat] at hq
    | _ => rcases hp.1 with rfl | rfl <;> simp [eqq, pd, PyData.eqv] at h
theorem sames_eqq : ∀ {n m : Nat} {xs ys : List PV}, dats n xs → dats m ys → nbs xs = true → nbs ys = true → PyData.eqvAll (pds xs) (pds ys) = true → sames xs ys = true
  | n, m, [], [], _, _, _, _, _ => rfl
  | n, m, [], _ :: _, _, _, _, _, h => by simp [pds, PyData.eqvAll] at h
  | n, m, _ :: _, [], _, _, _, _, h => by simp [pds, PyData.eqvAll] at h
  | n, m, x :: xs, y :: ys, hp, hq, bp, bq, h => by
    simp only [dats] at hp hq
    simp only [nbs, Bool.and_eq_true] at bp bq
    simp only [pds, PyData.eqvAll, Bool.and_eq_true] at h
    simp only [sames, Bool.and_eq_true]
    exact ⟨same_eqq hp.1 hq.1 bp.1 bq.1 h.1, sames_eqq hp.2 hq.2 bp.2 bq.2 h.2⟩
end
end Law
/-! U6: units compared; any parts told. -/
namespace Law
open PySem PySem.Spec PyProof.Rows L2 Pv
def HF (v : PV) : Prop := ∀ n, ∃ b, HV n v b
theorem HF.num (s e t d : Int) {k : PV} {b : Bool} (h : KV k b) : HF (tu [.int s, .int e, .int t, .int d, k]) := fun n => ⟨_, .num s e t d k b h⟩
theorem dats_of {n : Nat} : ∀ {xs : List PV}, (∀ v ∈ xs, dat n v) → dats n xs
  | [], _ => by simp [dats]
  | x :: xs, h => by
    simp only [dats]
    exact ⟨h x (by simp), dats_of fun v hv => h v (by simp [hv])⟩
/-! ### equality of rows of data -/
def teq (xs ys : List PV) : Bool := PyData.eqvAll (pds xs) (pds ys)
theorem eqv_lst {xs ys : List PyData} : PyData.eqv (.list xs) (.list ys) = PyData.eqvAll xs ys := by rw [PyData.eqv]
theorem eqv_tup {xs ys : List PyData} : PyData.eqv (.tuple xs) (.tuple ys) = PyData.eqvAll xs ys := by rw [PyData.eqv]
theorem teq_refl {xs : List PV} (h : dats 2 xs) : teq xs xs = true := by
  have q := toPDs_dat (S := []) 2 xs 8 h (by omega)
  have p : toPD 9 [] (.con .own .lst xs) = some (.list (pds xs)) := by
    have e : toPD 9 [] (.con .own .lst xs) = (xs.mapM (toPD 8 [])).map .list := rfl
    rw [e, q]; rfl
  have r := PySem.SeqAt.eqv_refl_plain _ (toPD_plain 9 _ _ p).1
  rw [eqv_lst] at r
  exact r
section
variable {S : Sto}
theorem pd_con {m : Md} {k : Kd} {xs : List PV} (hk : k = .lst ∨ k = .tup) (d : dats 2 xs) {n : Nat} (hn : 3 ≤ n) : toPD (n + 1) S (.con m k xs) = some (match k with | .tup => .tuple (pds xs) | _ => .list (pds xs)) := by
  have q := toPDs_dat (S := S) 2 xs n d (by omega)
  rcases hk with rfl | rfl
  · have e : toPD (n + 1) S (.con m .lst xs) = (xs.mapM (toPD n S)).map .list := rfl
    rw [e, q]; rfl
  · have e : toPD (n + 1) S (.con m .tup xs) = (xs.mapM (toPD n S)).map .tuple := rfl
    rw [e, q]; rfl
theorem eqB_tup {m m' : Md} {xs ys : List PV} (d : dats 2 xs) (d' : dats 2 ys) : eqB S (.con m .tup xs) (.con m' .tup ys) = some (teq xs ys) := by
  have e1 := pd_con (S := S) (m := m) (Or.inr rfl) d (n := 8) (by omega)
  have e2 := pd_con (S := S) (m := m') (Or.inr rfl) d' (n := 8) (by omega)
  unfold eqB
  simp only [e1, e2]
  rw [eqv_tup]; rfl
end
/-! ### units -/
theorem unit_cl (V : Vals) {ml mh : Md} (h1 : ml ≠ .lent) (h2 : mh ≠ .lent) (ds : List (Option Nat)) : clean (unitM ml mh V.cs V.ls V.hs (depP ds)) = true := by
  have c2 : clean (.con ml .tup V.ls) = true := by
    revert h1; cases ml <;> simp [clean, V.cl]
  have c3 : clean (.con mh .tup V.hs) = true := by
    revert h2; cases mh <;> simp [clean, V.ch]
  show cleans [_, _, _, _] = true
  simp only [cleans, c2, c3]
  simp only [clean, V.cc, cleans_okd, depP]
  rfl
end Law
/-! U7: small tools over stores. -/
namespace Pv
open PySem PySem.Spec PyProof.Rows L2
theorem W.make {f : List PV → RP} {m : Nat} {dps : List PV} {as : AF} {Γ : Gam} {S : Sto} {Q : PV → Sto → Prop} (h : okR (as Γ S) fun vs S1 => vs.length = m ∧ ∃ qs v, vs.mapM (lendV S1) = some qs ∧ f (qs ++ dps) = .ok v ∧ Q v S1) : okR (eMakeP f m dps as Γ S) Q := by
  obtain ⟨vs, S1, e, hl, qs, v, e2, e3, q⟩ := h.eq
  refine okR.of (v := v) (S := S1) ?_ q
  unfold eMakeP
  rw [e]
  show (if vs.length = m then (match vs.mapM (lendV S1) with
    | some qs => match f (qs ++ dps) with
      | .ok v => R.ok v S1
      | .ex c fs => .ex c fs S1
      | .bad => .bad
    | none => .bad) else .bad) = _
  rw [if_pos hl, e2]
  show (match f (qs ++ dps) with
      | .ok v => R.ok v S1
      | .ex c fs => .ex c fs S1
      | .bad => .bad) = _
  rw [e3]
theorem W.gSub {f : SetF} {o j : EF} {v : PV} {B : Gam → Sto → Prop} {Γ : Gam} {S : Sto} (h : okR (o Γ S) fun x S1 => okR (j Γ S1) fun y S2 => ∃ S3, f x y v S2 = some S3 ∧ B Γ S3) : okR (gSubF f o j v Γ S) B := by
  unfold gSubF
  refine okR.bind (h.mono fun x S1 h => okR.bind (h.mono fun y S2 ⟨S3, e, q⟩ => ?_))
  rw [e]
  exact q
section
variable {S : Sto} {r n : Nat} {xs ps : List PV} {p v : PV} {i : Int} {k : Nat}
theorem appF (hr : S[r]? = some (some (.lst, ps))) (hz : ps.length < 1000000) : appendF (.ref r) [p] S = some (.non, S.set r (some (.lst, ps ++ [p]))) := by
  have z : sizeLine = 16777216 := sizeLine_eq
  exact appendF_ref hr (by omega)
theorem setF {j : Nat} (hr : S[r]? = some (some (.lst, ps))) (hj : j < ps.length) : setLF (.ref r) (.int (j : Nat)) v S = some (S.set r (some (.lst, ps.set j v))) := by
  rw [setLF_ref hr]
  have : ixN ps.length (j : Int) = some j := by unfold ixN; rw [if_pos (by omega), if_pos (by omega)]; simp
  rw [this]
  rfl
theorem listR (h : S[r]? = some (some (.lst, xs))) (hn : S.length = n) : listF true [.ref r] S = some (.ref n, S ++ [some (.lst, xs)]) := by
  subst hn
  unfold listF
  simp only [deref_ref, h, Option.join_some]
  rfl
theorem app_get {w : Option (Kd × List PV)} {u : Option (Kd × List PV)} (h : S[r]? = some u) : (S ++ [w])[r]? = some u := by
  rw [List.getElem?_append_left (List.getElem?_eq_some_iff.mp h).1]; exact h
theorem app_new {w : Option (Kd × List PV)} (h : S.length = n) : (S ++ [w])[n]? = some w := by
  subst h; simp
theorem set_get {w u : Option (Kd × List PV)} {d : Nat} (h : S[r]? = some u) (hd : d ≠ r) : (S.set d w)[r]? = some u := by rw [List.getElem?_set_ne hd]; exact h
theorem set_new {w u : Option (Kd × List PV)} (h : S[r]? = some u) : (S.set r w)[r]? = some w := List.getElem?_set_self (List.getElem?_eq_some_iff.mp h).1
theorem ixR (h : S[r]? = some (some (.lst, xs))) (e : L2.atI xs i = some v) : ixF (.ref r) (.int i) S = some (v, S) := by
  unfold ixF
  rw [ixB_ref h, e]
  rfl
theorem lendR (h : S[r]? = some (some (.lst, xs))) (c : cleans xs = true) : lendV S (.ref r) = some (.con .lent .lst xs) := by
  unfold lendV
  rw [if_neg (by simp [clean])]
  simp only [h, Option.join_some]
  rw [if_pos c]
end
end Pv
namespace Law
open PySem PySem.Spec PyProof.Rows L2 Pv
theorem DR.set {ns : List Int} {n : Nat} {S : Sto} {x : Nat} {v : Option (Kd × List PV)} (d : DR n ns S) (hx : x ≠ n) : DR n ns (S.set x v) := by
  obtain ⟨a, b, s, e, h0⟩ := d
  exact ⟨a, b, s, by rw [List.getElem?_set_ne hx]; exact e, h0⟩
theorem DR.app {ns : List Int} {n : Nat} {S : Sto} {v : Option (Kd × List PV)} (d : DR n ns S) : DR n ns (S ++ [v]) := by
  obtain ⟨a, b, s, e, h0⟩ := d
  exact ⟨a, b, s, app_get e, h0⟩
end Law
/-! J2a: places of rows. -/
namespace Law
open PySem PySem.Spec PyProof.Rows L2 Pv
theorem ixF_nm (i : Itr) {S : Sto} : ixF i.pv (.int 0) S = some (.str (nm i), S) := by
  show (ixB _ i.pv (.int 0)).map _ = _
  rw [nm_ix]; rfl
theorem ixF_tgt {i : Itr} {t : Nat} (h : i.tgt = some t) {S : Sto} : ixF i.pv (.int 1) S = some (.int (t : Nat), S) := by
  show (ixB _ i.pv (.int 1)).map _ = _
  rw [tgt_ix h]; rfl
section
variable {rows : List Rw}
theorem pvs_at {k : Nat} {r : Rw} (h : rows[k]? = some r) : L2.atI (pvs rows) (k : Int) = some r.i.pv := by
  rw [atI_nat]; unfold pvs; rw [List.getElem?_map, h]; rfl
theorem lns_at {k : Nat} {r : Rw} (h : rows[k]? = some r) : L2.atI (lns rows) (k : Int) = some (.int (r.l : Nat)) := by
  rw [atI_nat]; unfold lns; rw [List.getElem?_map, h]; rfl
end
end Law
/-! F8: comprehensions with a test; slices. -/
namespace Pv
open PySem PySem.Spec PyProof.Rows L2
theorem iR2_ok {Γ : Gam} {S : Sto} {as : AF} {i j : Int} (e : as Γ S = .ok [.int i, .int j] S) (h : 0 ≤ i ∧ i < 1000000 ∧ 0 ≤ j ∧ j < 1000000) : iR2 as Γ S = .ok (stL (intsF i (j - i).toNat), (intsF i (j - i).toNat).length + 1) S := by
  have hl : (intsF i (j - i).toNat).length = (j - i).toNat := intsF_len
  unfold iR2
  rw [e]
  show (if -(2 ^ 62) ≤ i ∧ i < 2 ^ 62 ∧ -(2 ^ 62) ≤ j ∧ j < 2 ^ 62 then R.ok (stL (intsF i (j - i).toNat), (j - i).toNat + 1) S else .bad) = _
  rw [if_pos (by omega), hl]
end Pv
/-! F18: a comprehension with a test over a changing list that stands still meanwhile. -/
namespace Pv
open PySem PySem.Spec PyProof.Rows L2
end Pv
/-! Oe: how a law ends; lists of numbers. -/
namespace Law
open PySem PySem.Spec PyProof.Rows L2 Pv
theorem gUr {is : List Nat} {r : Nat} {xs : List PV} {Γ : Gam} {S : Sto} (h : S[r]? = some (some (.lst, xs))) : gU is (.ref r) Γ S = gNs is xs Γ S := by
  unfold gU
  simp only [deref_ref, h, Option.join_some]
end Law
/-! W4: more of the step tactic: what is read through references, branches that the context decides. -/
namespace Pv
open PySem PySem.Spec PyProof.Rows L2
theorem W.kT2 {A C : Prop} {p : Prop} [Decidable p] (e : p) (h : A) : (decide p = true → A) ∧ (decide p = false → C) := W.kT' (decide_eq_true e) h
theorem W.kF2 {A C : Prop} {p : Prop} [Decidable p] (e : ¬ p) (h : C) : (decide p = true → A) ∧ (decide p = false → C) := W.kF' (decide_eq_false e) h
theorem W.kNT {A C : Prop} {p : Prop} [Decidable p] (e : ¬ p) (h : A) : ((!decide p) = true → A) ∧ ((!decide p) = false → C) := W.kT' (by simp [e]) h
theorem W.kNF {A C : Prop} {p : Prop} [Decidable p] (e : p) (h : C) : ((!decide p) = true → A) ∧ ((!decide p) = false → C) := W.kF' (by simp [e]) h
theorem popR {S : Sto} {r : Nat} {ps : List PV} {p : PV} (h : S[r]? = some (some (.lst, ps ++ [p]))) : popF (.ref r) [] S = some (p, S.set r (some (.lst, ps))) := by
  unfold popF lstF
  simp [h]
theorem tyL {S : Sto} {n : Nat} {xs : List PV} (h : S[n]? = some (some (.lst, xs))) : tyP "list" S (.ref n) = true := by
  unfold tyP
  simp [deref, h]
end Pv
local macro_rules | `(tactic| walk_at "sto") => `(tactic| first
  | assumption
  | with_reducible rfl
  | (refine Pv.set_new ?_; walk_at "sto")
  | (refine Pv.set_get ?_ (by omega); walk_at "sto")
  | (refine Pv.app_get ?_; walk_at "sto")
  | exact Pv.app_new rfl
  | exact Pv.app_new (by simp)
  | rfl)
local macro_rules | `(tactic| walk_at "elt") => `(tactic| first
  | assumption
  | exact Law.pvs_at (by assumption)
  | exact Law.lns_at (by assumption)
  | with_reducible rfl
  | rfl)
local macro_rules | `(tactic| walk_at "kd") => `(tactic| first
  | exact Or.inl rfl
  | exact Or.inr rfl
  | assumption)
local macro_rules | `(tactic| walk_at "fact") => `(tactic| first
  | assumption
  | omega
  | (dsimp only; first | assumption | omega))
local macro_rules | `(tactic| walk_at "r") => `(tactic| first
  | ((with_reducible show ∃ z S3, Pv.ixF (Law.Itr.pv _) (Pv.PV.int 0) _ = some (z, S3) ∧ _); refine ⟨_, _, Law.ixF_nm _, ?_⟩)
  | ((with_reducible show ∃ z S3, Pv.ixF (Law.Itr.pv _) (Pv.PV.int 1) _ = some (z, S3) ∧ _); refine ⟨_, _, Law.ixF_tgt (by assumption), ?_⟩)
  | ((with_reducible show ∃ z S3, Pv.ixF (Pv.PV.ref _) _ _ = some (z, S3) ∧ _); refine ⟨_, _, Pv.ixR (by walk_at "sto") (by walk_at "elt"), ?_⟩)
  | ((with_reducible show ∃ z S3, Pv.ixF (Pv.PV.con _ _ _) _ _ = some (z, S3) ∧ _); refine ⟨_, _, Pv.ixK (by walk_at "kd") (by walk_at "elt"), ?_⟩)
  | ((with_reducible show ∃ z S3, Pv.lenF [Pv.PV.ref _] _ = some (z, S3) ∧ _); refine ⟨_, _, Pv.lenF_ref (by walk_at "sto"), ?_⟩)
  | ((with_reducible show ∃ z S3, Pv.lenF [Pv.PV.con _ _ _] _ = some (z, S3) ∧ _); refine ⟨_, _, Pv.lenK (by walk_at "kd"), ?_⟩)
  | ((with_reducible show ∃ z S3, Pv.appendF (Pv.PV.ref _) [_] _ = some (z, S3) ∧ _); refine ⟨_, _, Pv.appF (by walk_at "sto") (by walk_at "fact"), ?_⟩)
  | ((with_reducible show ∃ z S3, Pv.popF (Pv.PV.ref _) [] _ = some (z, S3) ∧ _); refine ⟨_, _, Pv.popR (by walk_at "sto"), ?_⟩)
  | ((with_reducible show ∃ z S3, Pv.listF true [Pv.PV.ref _] _ = some (z, S3) ∧ _); refine ⟨_, _, Pv.listR (by walk_at "sto") rfl, ?_⟩)
  | ((with_reducible show Pv.tyP _ _ (Pv.PV.ref _) = true ∧ _); refine ⟨Pv.tyL (by walk_at "sto"), ?_⟩)
  | with_reducible refine Pv.W.gSub ?_
  | fail "r")
local macro_rules | `(tactic| walk_at "b") => `(tactic| first
  | ((with_reducible show (decide _ = true → _) ∧ (decide _ = false → _)); first | refine Pv.W.kT2 (by walk_at "fact") ?_ | refine Pv.W.kF2 (by walk_at "fact") ?_ | fail "b")
  | ((with_reducible show ((!decide _) = true → _) ∧ ((!decide _) = false → _)); first | refine Pv.W.kNT (by walk_at "fact") ?_ | refine Pv.W.kNF (by walk_at "fact") ?_ | fail "b")
  | fail "b")
local macro_rules | `(tactic| walk_at "w") => `(tactic| repeat' (first | walk_at "s" | walk_at "r" | walk_at "b" | fail "w"))
/-! X3d: depths_of = runX (its own worklist, plain). -/
namespace Law
open PySem PySem.Spec PyProof.Rows L2 Pv
abbrev StX := List (Option Nat) × List Nat
def deepX (dep : Nat) : Option Hnd → Bool
  | some h => decide (dep < h.d)
  | none => false
def oneX (dep aft : Nat) (x : Nat × Option Hnd) (s : StX) : Option StX := if deepX dep x.2 = true then none else match s.1[x.1]? with
  | some none => some (s.1.set x.1 (some (wantd aft x)), s.2 ++ [x.1])
  | some (some d) => if d = wantd aft x then some s else none
  | none => none
def allX (dep aft : Nat) : List (Nat × Option Hnd) → StX → Option StX
  | [], s => some s
  | x :: xs, s => (oneX dep aft x s).bind (allX dep aft xs)
def turnX (rows : List Rw) (hds : List Hnd) (i : Nat) (s : StX) : Option StX := match rows[i]?, s.1[i]? with
  | some r, some (some dep) => if dep < r.i.rem then none else allX dep (dep - r.i.rem + r.i.push) (exits rows.length hds i r.i) s
  | _, _ => none
def runX (rows : List Rw) (hds : List Hnd) : Nat → StX → Option (List (Option Nat))
  | 0, s => some s.1
  | m + 1, s => match s.2.getLast? with
    | none => some s.1
    | some i => (turnX rows hds i (s.1, s.2.dropLast)).bind (runX rows hds m)
/-- how it ends, as the walk says it -/
def EndX (R : Option (List (Option Nat))) (P : RS → Prop) : Prop := R = none → ∀ Γ S, P (.ex "BadDepth" [] Γ S)
section
variable {m : Md} {rows : List Rw} {hds : List Hnd} {P : RS → Prop}
theorem oneX_step {n dep aft : Nat} {x : Nat × Option Hnd} {ds ds' : List (Option Nat)} {wt wt' : List Nat} (di : DI n ds wt) (e : oneX dep aft x (ds, wt) = some (ds', wt')) : DI n ds' wt' ∧ cnt ds' + wt'.length = cnt ds + wt.length ∧ ∀ i d : Nat, ds[i]? = some (some d) → ds'[i]? = some (some d) := by
  unfold oneX at e
  split at e
  · cases e
  · split at e
    · rename_i h
      cases e
      have h : ds[x.1]? = some none := h
      refine ⟨di.put h, ?_, fun i d hd => ?_⟩
      · have := cnt_set (v := wantd aft x) h
        show cnt (ds.set x.1 (some (wantd aft x))) + (wt ++ [x.1]).length = _
        rw [List.length_append, List.length_singleton]
        omega
      · have : x.1 ≠ i := fun z => by rw [z, hd] at h; cases h
        show (ds.set x.1 (some (wantd aft x)))[i]? = _
        rw [List.getElem?_set_ne this]; exact hd
    · split at e
      · cases e; exact ⟨di, rfl, fun _ _ h => h⟩
      · cases e
    · cases e
theorem dturnX {R : Option (List (Option Nat))} (hR : EndX R P) {ds : List (Option Nat)} {wt : List Nat} {x : Nat × Option Hnd} {dep aft : Nat} {c h i w y : Option PV} (ht : x.1 < ds.length) (hw : wt.length < 100000)
    (no : oneX dep aft x (ds, wt) = none → R = none)
    (k : ∀ ds' wt', oneX dep aft x (ds, wt) = some (ds', wt') → rsP (.nx [c, h, some (.ref 0), some (.ref 1), i, some (.int (dep : Nat)), w, some (.int (aft : Nat)), some (.int x.1), some (hvP x.2), some (.int (wantd aft x : Nat))] (dst ds' wt')) P) :
    rsP (l3_depths_of [c, h, some (.ref 0), some (.ref 1), i, some (.int (dep : Nat)), w, some (.int (aft : Nat)), some (.int x.1), some (hvP x.2), y] (dst ds wt)) P := by
  obtain ⟨t, ho⟩ := x
  have ht : t < ds.length := ht
  have n1 : (ds.map okd).length = ds.length := List.length_map _
  have n2 : (wt.map fun w : Nat => PV.int (w : Nat)).length = wt.length := List.length_map _
  have rd : L2.atI (ds.map okd) (t : Int) = some (okd ds[t]) := by rw [atI_nat, List.getElem?_map, List.getElem?_eq_getElem ht]; rfl
  have one : ∀ {dp : Bool}, deepX dep ho = dp → oneX dep aft (t, ho) (ds, wt) = if dp = true then none else match ds[t] with
      | none => some (ds.set t (some (wantd aft (t, ho))), wt ++ [t])
      | some d => if d = wantd aft (t, ho) then some (ds, wt) else none := fun e => by
    subst e
    unfold oneX
    simp only [List.getElem?_eq_getElem ht]
    split
    · rfl
    · cases ds[t] <;> rfl
  have fin : ∀ (wn : Nat), wn = wantd aft (t, ho) → deepX dep ho = false → rsP (r2_depths_of [c, h, some (.ref 0), some (.ref 1), i, some (.int (dep : Nat)), w, some (.int (aft : Nat)), some (.int (t : Nat)), some (hvP ho), some (.int (wn : Nat))] (dst ds wt)) P := fun wn hwn hdp => by
    have one := one hdp
    rw [if_neg (by simp)] at one
    unfold r2_depths_of
    cases hd : ds[t] with
    | none =>
      rw [hd] at rd one
      walk_at "w"
      unfold i1_depths_of
      walk_at "w"
      refine ⟨_, setF (j := t) rfl (by omega), ?_⟩
      walk_at "w"
      have := k _ _ one
      subst hwn
      simp only [dst, List.map_set, List.map_append] at this
      exact this
    | some d =>
      rw [hd] at rd one
      walk_at "w"
      refine Pv.W.kND (fun q => ?_) fun q => ?_
      · walk_at "w"
        have one : oneX dep aft (t, ho) (ds, wt) = none := by rw [one]; exact if_neg (by omega)
        exact hR (no one) _ _
      · walk_at "w"
        have one : oneX dep aft (t, ho) (ds, wt) = some (ds, wt) := by rw [one]; exact if_pos (by omega)
        have := k _ _ one
        subst hwn
        exact this
  unfold l3_depths_of
  cases ho with
  | none =>
    walk_at "w"
    exact fin aft rfl rfl
  | some hn =>
    walk_at "w"
    unfold i0_depths_of
    walk_at "w"
    refine Pv.W.kD (fun q => ?_) fun q => ?_
    · walk_at "w"
      have one : oneX dep aft (t, some hn) (ds, wt) = none := by rw [one (dp := true) (by simp [deepX]; omega)]; rfl
      exact hR (no one) _ _
    · walk_at "w"
      exact fin hn.d rfl (by simp [deepX]; omega)
end
end Law
/-! X3e: depths_of = runX: the loops. -/
namespace Law
open PySem PySem.Spec PyProof.Rows L2 Pv
section
variable {m : Md} {rows : List Rw} {hds : List Hnd} {P : RS → Prop} {R : Option (List (Option Nat))}
theorem TgtOk.lt {ds : List (Option Nat)} {wt : List Nat} {i : Nat} {r : Rw} (tg : TgtOk rows hds) (hr : rows[i]? = some r) (di : DI rows.length ds wt) {x : Nat × Option Hnd} (hx : x ∈ exits rows.length hds i r.i) : x.1 < ds.length := by rw [di.len]; exact tg i r hr x hx
theorem dinnerX (hm : m ≠ .lent) (hR : EndX R P) {i : Nat} {r : Rw} {ds : List (Option Nat)} {wt : List Nat} {dep : Nat} {w y8 y9 y10 : Option PV} (hr : rows[i]? = some r) (hz : rows.length < 90000) (tg : TgtOk rows hds)
    (di : DI rows.length ds wt) (hc : cnt ds + wt.length < 95000) (no : allX dep (dep - r.i.rem + r.i.push) (exits rows.length hds i r.i) (ds, wt) = none → R = none)
    (k : ∀ ds' wt' y8 y9 y10, DI rows.length ds' wt' → cnt ds' + wt'.length = cnt ds + wt.length → allX dep (dep - r.i.rem + r.i.push) (exits rows.length hds i r.i) (ds, wt) = some (ds', wt') → rsP (.nx (dG m rows hds i dep w (dep - r.i.rem + r.i.push) y8 y9 y10) (dst ds' wt')) P) :
    rsP (sFor (iAny (eCallP f_moves (aCons (eV 0) (aCons (eV 1) (aCons (eV 4) aNil))))) (gU [8, 9]) l3_depths_of (dG m rows hds i dep w (dep - r.i.rem + r.i.push) y8 y9 y10) (dst ds wt)) P := by
  walk_at "w"
  refine ⟨[codeP rows, hdsM m hds, .int (i : Nat)], .con .own .lst ((exits rows.length hds i r.i).map exP), ?_, moves_okM hm rows hds i r hr (by omega), .own, _, Or.inl rfl, ?_⟩
  · simp only [List.mapM_cons, List.mapM_nil, lend_clean' (clean_code rows), lend_clean' (clean_hp hm hds)]
    rfl
  refine Pv.W.turns exP (fun _ rest Γ S => ∃ ds' wt' y8 y9 y10, Γ = dG m rows hds i dep w (dep - r.i.rem + r.i.push) y8 y9 y10 ∧ S = dst ds' wt' ∧ DI rows.length ds' wt' ∧ cnt ds' + wt'.length = cnt ds + wt.length ∧
    allX dep (dep - r.i.rem + r.i.push) rest (ds', wt') = allX dep (dep - r.i.rem + r.i.push) (exits rows.length hds i r.i) (ds, wt) ∧ ∀ x ∈ rest, x ∈ exits rows.length hds i r.i) ?_ ?_ ⟨ds, wt, y8, y9, y10, rfl, rfl, di, rfl, rfl, fun x h => h⟩
  · rintro d x rest Γ S ⟨ds', wt', z8, z9, z10, rfl, rfl, di', hc', ha, hm'⟩
    refine ⟨dG m rows hds i dep w (dep - r.i.rem + r.i.push) (some (.int x.1)) (some (hvP x.2)) z10, dst ds' wt', rfl, ?_⟩
    refine dturnX (P := fun q => Trn q _ P) (wt := wt') (dep := dep) (aft := dep - r.i.rem + r.i.push) (R := R) (fun e Γ S => hR e Γ S) (tg.lt hr di' (hm' x List.mem_cons_self)) (by omega) (fun e => no (by rw [← ha]; unfold allX; rw [e]; rfl)) fun ds2 wt2 e => ?_
    obtain ⟨d1, d2, _⟩ := oneX_step di' e
    exact ⟨ds2, wt2, _, _, _, rfl, rfl, d1, by omega, by rw [← ha]; show _ = (oneX _ _ x (ds', wt')).bind _; rw [e]; rfl, fun y hy => hm' y (List.mem_cons_of_mem _ hy)⟩
  · rintro d Γ S ⟨ds', wt', z8, z9, z10, rfl, rfl, di', hc', ha, _⟩
    exact k ds' wt' z8 z9 z10 di' hc' ha.symm
theorem dbodyX (hm : m ≠ .lent) (hR : EndX R P) {ds : List (Option Nat)} {wt : List Nat} {i : Nat} {y4 y5 y6 y7 y8 y9 y10 : Option PV} (hz : rows.length < 90000) (tg : TgtOk rows hds)
    (di : DI rows.length ds (wt ++ [i])) (hc : cnt ds + wt.length < 95000) (no : turnX rows hds i (ds, wt) = none → R = none)
    (k : ∀ ds' wt' y4 y5 y6 y7 y8 y9 y10, DI rows.length ds' wt' → cnt ds' + wt'.length = cnt ds + wt.length → turnX rows hds i (ds, wt) = some (ds', wt') → rsP (.nx (dG0 m rows hds y4 y5 y6 y7 y8 y9 y10) (dst ds' wt')) P) :
    rsP (l5_depths_of (dG0 m rows hds y4 y5 y6 y7 y8 y9 y10) (dst ds (wt ++ [i]))) P := by
  obtain ⟨dep, hd⟩ := di.w i (by simp)
  have hi : i < ds.length := (List.getElem?_eq_some_iff.mp hd).1
  have hir : i < rows.length := by rw [← di.len]; exact hi
  obtain ⟨r, hr⟩ : ∃ r, rows[i]? = some r := ⟨rows[i], List.getElem?_eq_getElem hir⟩
  have tu : turnX rows hds i (ds, wt) = if dep < r.i.rem then none else allX dep (dep - r.i.rem + r.i.push) (exits rows.length hds i r.i) (ds, wt) := by
    unfold turnX
    simp only [hr, hd]
  unfold l5_depths_of
  walk_at "s"
  walk_at "s"
  walk_at "s"
  walk_at "s"
  refine ⟨rfl, Pv.W.nil ⟨.int (i : Nat), dst ds wt, ?_, ?_⟩⟩
  · show lstF _ _ _ _ = _
    unfold lstF
    simp
  have rd : L2.atI (ds.map okd) (i : Int) = some (.int (dep : Nat)) := by rw [atI_nat, List.getElem?_map, hd]; rfl
  have rc : L2.atI (rows.map fun r => r.i.pv) (i : Int) = some r.i.pv := by rw [atI_nat, List.getElem?_map, hr]; rfl
  walk_at "w"
  refine ⟨_, _, Pv.ixK (k := .tup) (Or.inr rfl) rc, ?_⟩
  walk_at "w"
  refine ⟨(dep : Nat), (r.i.rem : Nat), rfl, rem_get r.i, ?_⟩
  walk_at "w"
  refine Pv.W.kD (fun c => ?_) fun c => ?_
  · walk_at "w"
    exact hR (no (by rw [tu]; exact if_pos (by omega))) _ _
  rw [if_neg (by omega)] at tu
  rw [tu] at no k
  walk_at "s"
  walk_at "s"
  unfold r4_depths_of
  walk_at "ss"
  rw [rem_get]
  refine ⟨_, _, rfl, ?_⟩
  walk_at "ss"
  rw [push_get]
  refine ⟨_, _, rfl, ?_⟩
  walk_at "s"
  have ea : ((dep : Int) - (r.i.rem : Nat) + (r.i.push : Nat)) = ((dep - r.i.rem + r.i.push : Nat) : Int) := by omega
  rw [ea]
  exact dinnerX hm hR hr hz tg di.pop hc no fun ds' wt' z8 z9 z10 h1 h2 h3 => k ds' wt' _ _ _ _ z8 z9 z10 h1 h2 h3
theorem dloopX (hm : m ≠ .lent) (hR : EndX R P) {ds : List (Option Nat)} {wt : List Nat} {y4 y5 y6 y7 y8 y9 y10 : Option PV} (hz : rows.length < 90000) (tg : TgtOk rows hds)
    (di : DI rows.length ds wt) (hc : cnt ds + wt.length < 95000) (hrun : runX rows hds (cnt ds + wt.length) (ds, wt) = R)
    (k : ∀ ds' Γ, DI rows.length ds' [] → R = some ds' → Γ[2]? = some (some (.ref 0)) → rsP (.nx Γ (dst ds' [])) P) :
    rsP (sWhl (bT (eV 3)) l5_depths_of (dG0 m rows hds y4 y5 y6 y7 y8 y9 y10) (dst ds wt)) P := by
  refine Pv.W.whl (fun c Γ S => c < 95000 ∧ ∃ ds wt y4 y5 y6 y7 y8 y9 y10, Γ = dG0 m rows hds y4 y5 y6 y7 y8 y9 y10 ∧ S = dst ds wt ∧ DI rows.length ds wt ∧ cnt ds + wt.length = c ∧ runX rows hds c (ds, wt) = R) ?_ ⟨hc, ds, wt, y4, y5, y6, y7, y8, y9, y10, rfl, rfl, di, rfl, hrun⟩ (by omega)
  rintro c Γ S ⟨hc, ds, wt, y4, y5, y6, y7, y8, y9, y10, rfl, rfl, di, e, hrun⟩
  walk_at "ss"
  rcases List.eq_nil_or_concat wt with rfl | ⟨wt', i, rfl⟩
  · refine ⟨fun _ => k ds _ di ?_ rfl, fun h => by cases h⟩
    rw [← hrun]
    cases c <;> rfl
  · rw [List.concat_eq_append] at di e hrun ⊢
    refine ⟨fun h => by simp at h, fun _ => ?_⟩
    rw [List.length_append, List.length_singleton] at e
    obtain ⟨c, rfl⟩ : ∃ c', c = c' + 1 := ⟨c - 1, by omega⟩
    have hrun : (turnX rows hds i (ds, wt')).bind (runX rows hds c) = R := by
      rw [← hrun]
      conv => rhs; unfold runX
      simp
    refine dbodyX hm (P := fun q => Trn q _ P) (R := R) (fun e Γ S => hR e Γ S) hz tg di (by omega) (fun e => by rw [← hrun, e]; rfl) fun ds' wt' z4 z5 z6 z7 z8 z9 z10 h1 h2 h3 => ?_
    exact ⟨c, by omega, by omega, ds', wt', z4, z5, z6, z7, z8, z9, z10, rfl, rfl, h1, by omega, by rw [← hrun, h3]; rfl⟩
def topX (rows : List Rw) (hds : List Hnd) : Option (List (Option Nat)) := runX rows hds (cnt (ini rows.length) + 1) (ini rows.length, [0])
theorem cnt_ini {n : Nat} (h : 1 ≤ n) : cnt (ini n) ≤ n := by
  have := List.countP_le_length (p := fun x : Option Nat => x.isNone) (l := ini n)
  rw [ini_len h] at this
  exact this
theorem di_ini {n : Nat} (h : 1 ≤ n) : DI n (ini n) [0] := ⟨ini_len h, fun i hi => by simp at hi; subst hi; exact ⟨0, by simp [ini]⟩⟩
theorem dwalkX (hm : m ≠ .lent) (h1 : 1 ≤ rows.length) (h2 : rows.length < 90000) (tg : TgtOk rows hds) (hR : EndX (topX rows hds) P)
    (k : ∀ ds, ds.length = rows.length → topX rows hds = some ds → P (.rt (.con .own .tup (ds.map okd)) (dst ds []))) :
    rsP (body_depths_of [some (codeP rows), some (hdsM m hds), none, none, none, none, none, none, none, none, none] []) P := by
  have hl : (rows.map fun r : Rw => r.i.pv).length = rows.length := List.length_map _
  have z : sizeLine = 16777216 := sizeLine_eq
  have c0 := cnt_ini h1
  unfold body_depths_of
  have hmu : eOp (mulF true) (eLst false (aCons (eC .non) aNil)) (eCall lenF (aCons (eV 0) aNil)) [some (codeP rows), some (hdsM m hds), none, none, none, none, none, none, none, none, none] [] = .ok (.ref 0) [some (.lst, List.replicate rows.length .non)] := by
    have e : mulF true (.con .own .lst [.non]) (.int (rows.length : Nat)) [] = some (.ref 0, [some (.lst, List.replicate rows.length .non)]) := by
      unfold mulF
      simp only [derefH]
      rw [if_pos ⟨by omega, by omega, by simp; omega⟩]
      simp
    have e2 : eCall lenF (aCons (eV 0) aNil) [some (codeP rows), some (hdsM m hds), none, none, none, none, none, none, none, none, none] [] = .ok (.int (rows.length : Nat)) [] := by
      show R.ok (PV.int ((rows.map fun r : Rw => r.i.pv).length : Nat)) [] = _
      rw [hl]
    have e3 : eLst false (aCons (eC .non) aNil) [some (codeP rows), some (hdsM m hds), none, none, none, none, none, none, none, none, none] [] = .ok (.con .own .lst [.non]) [] := by
      simp [szl]
    rw [eOp_eq, e3, opK_ok, e2, opK2_ok, e, rof_some]
  walk_at "s"
  walk_at "s"
  with_reducible refine okR.of hmu ?_
  have e0 : (List.replicate rows.length PV.non).set 0 (.int 0) = (ini rows.length).map okd := by
    obtain ⟨w, hw⟩ : ∃ w, rows.length = w + 1 := ⟨rows.length - 1, by omega⟩
    rw [hw]
    simp [ini, List.replicate_succ, okd]
  walk_at "w"
  refine ⟨_, setF (j := 0) rfl (by rw [List.length_replicate]; omega), ?_⟩
  rw [e0]
  walk_at "w"
  refine dloopX hm (P := thenS r6_depths_of P) (fun e Γ S => hR e Γ S) h2 tg (ds := ini rows.length) (wt := [0]) (di_ini h1) (by show cnt _ + 1 < _; omega) rfl fun ds' Γ di hr hΓ => ?_
  walk_at "s"
  unfold r6_depths_of
  refine Pv.W.ret (Pv.W.call (Pv.W.cons (Pv.W.var hΓ (Pv.W.nil ⟨.con .own .tup (ds'.map okd), dst ds' [], rfl, ?_⟩))))
  exact k ds' di.len hr
/-- depths_of, exactly -/
theorem depths_X (hm : m ≠ .lent) (h1 : 1 ≤ rows.length) (h2 : rows.length < 90000) (tg : TgtOk rows hds) :
    (∃ ds, topX rows hds = some ds ∧ ds.length = rows.length ∧ f_depths_of [codeP rows, hdsM m hds] = .ok (depP ds)) ∨ (topX rows hds = none ∧ f_depths_of [codeP rows, hdsM m hds] = .ex "BadDepth" []) := by
  have e : f_depths_of [codeP rows, hdsM m hds] = rupK (body_depths_of [some (codeP rows), some (hdsM m hds), none, none, none, none, none, none, none, none, none] []) := by
    unfold f_depths_of; rw [runP_eq (by rfl)]; rfl
  rw [e]
  refine dwalkX hm (P := fun r => (∃ ds, topX rows hds = some ds ∧ ds.length = rows.length ∧ rupK r = .ok (depP ds)) ∨ (topX rows hds = none ∧ rupK r = .ex "BadDepth" [])) h1 h2 tg (fun e Γ S => Or.inr ⟨e, by rw [rupK_ex]; rfl⟩) fun ds hl hr => Or.inl ⟨ds, hr, hl, by rw [rupK_rt]; exact resP_clean (cleans_okd ds)⟩
end
end Law
/-! R1: rows of which a unit can be asked for (whatever the depths). -/
namespace Law
open PySem PySem.Spec PyProof.Rows L2 Pv
structure Raw (rows : List Rw) (hds : List Hnd) : Prop where
  len : rows.length ≤ 200
  pos : 0 < rows.length
  good : ∀ (j : Nat) (r : Rw), rows[j]? = some r → r.good
  nxt : ∀ (j : Nat) (r : Rw), rows[j]? = some r → r.i.last = false → j + 1 < rows.length
  tgt : ∀ (j : Nat) (r : Rw), rows[j]? = some r → ∀ t, r.i.tgt = some t → t < rows.length
  hd : ∀ h ∈ hds, h.good ∧ h.s < h.e ∧ h.e ≤ rows.length ∧ h.t < rows.length ∧ h.d ≤ 200
  few : hds.length < 200000
section
variable {rows : List Rw} {hds : List Hnd}
theorem Raw.kv (s : Raw rows hds) {x : Hnd} (h : x ∈ hds) : KV (okP x.k) true := .ok x.k fun w e => ((s.hd x h).1 w e).1
def Raw.vals (s : Raw rows hds) : Vals where
  cs := pvs rows
  ls := lns rows
  hs := hvs hds
  cb := fun _ => true
  lb := fun _ => true
  hb := fun _ => true
  hc := fun k v h => by
    unfold pvs at h
    rw [List.getElem?_map] at h
    obtain ⟨r, hr, rfl⟩ := Option.map_eq_some_iff.mp h
    exact .ok r.i (s.good k r hr).1
  hl := fun k v h => by
    unfold lns at h
    rw [List.getElem?_map] at h
    obtain ⟨r, hr, rfl⟩ := Option.map_eq_some_iff.mp h
    exact .ok r.l (s.good k r hr).2
  hh := fun k v h => by
    unfold hvs at h
    rw [List.getElem?_map] at h
    obtain ⟨x, hx, rfl⟩ := Option.map_eq_some_iff.mp h
    have hm := List.mem_of_getElem? hx
    obtain ⟨g, h1, h2, h3, h4⟩ := s.hd x hm
    have q := HV.num (n := (pvs rows).length) (x.s : Int) (x.e : Int) (x.t : Int) (x.d : Int) (okP x.k) true (s.kv hm)
    have e : (decide ((0 ≤ (x.s : Int) ∧ (x.s : Int) < x.e ∧ (x.e : Int) ≤ ((pvs rows).length : Nat)) ∧ (0 ≤ (x.t : Int) ∧ (x.t : Int) < ((pvs rows).length : Nat)) ∧ (0 ≤ (x.d : Int) ∧ (x.d : Int) ≤ 200)) && true) = true := by
      rw [Bool.and_true]
      have : (pvs rows).length = rows.length := List.length_map _
      rw [this]
      exact decide_eq_true ⟨⟨by omega, by omega, by omega⟩, ⟨by omega, by omega⟩, by omega, by omega⟩
    rw [e] at q
    exact q
  nc := by have := s.len; show (rows.map _).length < _; rw [List.length_map]; omega
  nl := by have := s.len; show (rows.map _).length < _; rw [List.length_map]; omega
  nh := by have := s.few; show (hds.map _).length < _; rw [List.length_map]; omega
theorem Raw.last (s : Raw rows hds) : ∃ r, rows[rows.length - 1]? = some r ∧ r.i.last = true := by
  have p := s.pos
  have hl : rows.length - 1 < rows.length := by omega
  refine ⟨rows[rows.length - 1], List.getElem?_eq_getElem hl, ?_⟩
  cases h : (rows[rows.length - 1]).i.last with
  | true => rfl
  | false =>
    have := s.nxt _ _ (List.getElem?_eq_getElem hl) h
    omega
theorem Raw.err (s : Raw rows hds) : s.vals.err = none := by
  have n1 : s.vals.cs.length = rows.length := List.length_map _
  have n2 : s.vals.ls.length = rows.length := List.length_map _
  have p1 := s.len
  have p2 := s.pos
  have f1 : (List.range s.vals.cs.length).find? s.vals.bad1 = none := List.find?_eq_none.mpr fun k _ => by simp [Vals.bad1, Raw.vals]
  have f4 : (List.range s.vals.hs.length).find? s.vals.bad4 = none := List.find?_eq_none.mpr fun k _ => by simp [Vals.bad4, Raw.vals]
  have f3 : (List.range (mx s.vals.cs.length s.vals.ls.length)).find? s.vals.bad3 = none := List.find?_eq_none.mpr fun k hk => by
    have hk : k < mx s.vals.cs.length s.vals.ls.length := by simpa using hk
    unfold mx at hk
    rw [n1, n2] at hk
    simp only [Nat.lt_irrefl, gt_iff_lt, if_false] at hk
    unfold Vals.bad3
    rw [n1, n2, decide_eq_false (by omega)]
    simp [Raw.vals]
  have at_ : ∀ (k : Nat) (r : Rw), rows[k]? = some r → s.vals.cs.getD k .non = r.i.pv := fun k r hr => by
    have : s.vals.cs[k]? = some r.i.pv := by show (rows.map _)[k]? = _; rw [List.getElem?_map, hr]; rfl
    simp [List.getD, this]
  have f2 : (List.range s.vals.cs.length).find? s.vals.bad2 = none := List.find?_eq_none.mpr fun k hk => by
    have hk : k < rows.length := by rw [← n1]; simpa using hk
    obtain ⟨r, hr⟩ : ∃ r, rows[k]? = some r := ⟨rows[k], List.getElem?_eq_getElem hk⟩
    unfold Vals.bad2
    rw [at_ k r hr, tgtB_pv, n1]
    cases ht : r.i.tgt with
    | none => simp
    | some t =>
      have := s.tgt k r hr t ht
      simp
      omega
  obtain ⟨r, hr, hl⟩ := s.last
  unfold Vals.err
  rw [if_neg (by omega), f1, f2, f3, f4]
  show (if lastB (s.vals.cs.getD (s.vals.cs.length - 1) .non) = true then none else _) = none
  rw [n1, at_ _ r hr, lastB_pv, hl, if_pos rfl]
theorem Raw.tgts (s : Raw rows hds) : TgtOk rows hds := by
  intro i r hr x hx
  unfold exits at hx
  rcases List.mem_append.mp hx with hx | hx
  · rcases List.mem_append.mp hx with hx | hx
    · unfold exN at hx
      split at hx
      · rename_i c
        simp at hx; subst hx
        exact c.2
      · simp at hx
    · unfold exJ at hx
      split at hx
      · rename_i t ht
        simp at hx; subst hx
        exact s.tgt i r hr t ht
      · simp at hx
  · unfold exH at hx
    split at hx
    · split at hx
      · rename_i h hf
        simp at hx; subst hx
        exact (s.hd h (List.mem_of_find?_eq_some hf)).2.2.2.1
      · simp at hx
    · simp at hx
/-- the unit, exactly -/
theorem Raw.unit (s : Raw rows hds) {m1 m2 m3 : Md} {k1 k2 k3 : Kd} (q1 : k1 = .lst ∨ k1 = .tup) (q2 : k2 = .lst ∨ k2 = .tup) (q3 : k3 = .lst ∨ k3 = .tup) (o1 : tm m1 k1 = .own) (o2 : tm m2 k2 ≠ .lent) (o3 : tm m3 k3 ≠ .lent) :
    (∃ ds, topX rows hds = some ds ∧ ds.length = rows.length ∧ i_Unit_init [.con m1 k1 (pvs rows), .con m2 k2 (lns rows), .con m3 k3 (hvs hds)] = .ok (unitM (tm m2 k2) (tm m3 k3) (pvs rows) (lns rows) (hvs hds) (depP ds))) ∨
    (topX rows hds = none ∧ i_Unit_init [.con m1 k1 (pvs rows), .con m2 k2 (lns rows), .con m3 k3 (hvs hds)] = .ex "BadDepth" []) := by
  have h0 := unit_dep0 s.vals q1 q2 q3 o1 o2 o3 s.err rfl rfl
  rcases depths_X o3 (rows := rows) (hds := hds) s.pos (by have := s.len; omega) s.tgts with ⟨ds, e1, e2, e3⟩ | ⟨e1, e2⟩
  · exact Or.inl ⟨ds, e1, e2, h0.1 ds e3⟩
  · exact Or.inr ⟨e1, h0.2 e2⟩
end
end Law
/-! R2: places that can be reached = places with a depth. -/
namespace Law
open PySem PySem.Spec PyProof.Rows L2 Pv
/-- places that can be reached -/
inductive Rch (rows : List Rw) (hds : List Hnd) : Nat → Prop
  | zero : Rch rows hds 0
  | step {i : Nat} {r : Rw} {x : Nat × Option Hnd} (h : Rch rows hds i) (hr : rows[i]? = some r) (hx : x ∈ exits rows.length hds i r.i) : Rch rows hds x.1
end Law
/-! R3: comprehensions over any list of things; pairs in lists. -/
namespace Pv
open PySem PySem.Spec PyProof.Rows L2
theorem lcI_al {α : Type} {st : Stp} {gt : GF} {tt : BF} {te : EF} {Γ : Gam} {S : Sto} {xs : List α} (g : α → PV) (q : α → Bool) (m : α → PV) (hs : ∀ i : Nat, st S i = some ((xs.map g)[i]?)) (hz : xs.length < sizeLine)
    (h : ∀ x ∈ xs, ∃ Γ1, gt (g x) Γ S = .ok Γ1 S ∧ tt Γ1 S = .ok (q x) S ∧ (q x = true → te Γ1 S = .ok (m x) S)) : ∀ (k i : Nat) (acc : List PV), i + k = xs.length → acc.length ≤ i → lcI st gt tt te Γ (k + 1) i acc S = .ok (acc ++ ((xs.drop i).filter q).map m) S
  | 0, i, acc, e, _ => by
    unfold lcI
    rw [hs, List.getElem?_eq_none (by simp; omega), List.drop_eq_nil_of_le (by omega)]
    show R.ok acc S = _
    simp
  | k + 1, i, acc, e, ha => by
    have hi : i < xs.length := by omega
    obtain ⟨Γ1, h2, h3, h4⟩ := h xs[i] (List.getElem_mem hi)
    rw [List.drop_eq_getElem_cons hi]
    have e0 : (xs.map g)[i]? = some (g xs[i]) := by rw [List.getElem?_map, List.getElem?_eq_getElem hi]; rfl
    unfold lcI
    rw [hs, e0]
    cases hq : q xs[i] with
    | true =>
      rw [hq] at h3
      simp only [h2, h3, h4 hq]
      rw [if_pos (by omega), lcI_al g q m hs hz h k (i + 1) _ (by omega) (by simp; omega), List.filter_cons_of_pos hq, List.map_cons, List.append_assoc]
      rfl
    | false =>
      rw [hq] at h3
      simp only [h2, h3]
      rw [lcI_al g q m hs hz h k (i + 1) _ (by omega) (by omega), List.filter_cons_of_neg (by rw [hq]; simp)]
/-- what a comprehension makes of a list of any things -/
theorem lcA_eq {α : Type} {Γ : Gam} {S : Sto} {it : IF} {st : Stp} {gt : GF} {tt : BF} {te : EF} {is : List Nat} {xs : List α} {mu : Bool} (g : α → PV) (q : α → Bool) (m : α → PV) (hi : it Γ S = .ok (st, xs.length + 1) S) (hs : ∀ i : Nat, st S i = some ((xs.map g)[i]?)) (hz : xs.length < 1000000)
    (h : ∀ x ∈ xs, ∃ Γ1, gt (g x) (wipeG Γ is) S = .ok Γ1 S ∧ (okR (tt Γ1 S) fun b S' => b = q x ∧ S' = S) ∧ (q x = true → okR (te Γ1 S) fun v S' => v = m x ∧ S' = S)) :
    eLc mu it gt tt te is Γ S = .ok (newP mu .lst ((xs.filter q).map m) S).1 (newP mu .lst ((xs.filter q).map m) S).2 := by
  have z : sizeLine = 16777216 := sizeLine_eq
  have e1 : lcI st gt tt te (wipeG Γ is) (xs.length + 1) 0 [] S = .ok ((xs.filter q).map m) S := by
    have := lcI_al (st := st) (gt := gt) (tt := tt) (te := te) (Γ := wipeG Γ is) (S := S) (xs := xs) g q m hs (by omega) (fun x hx => by
      obtain ⟨Γ1, e0, ht, he⟩ := h x hx
      obtain ⟨b, S1, e, rfl, e9⟩ := ht.eq
      rw [e9] at e
      refine ⟨Γ1, e0, e, fun hq => ?_⟩
      obtain ⟨v, S2, e2, rfl, e8⟩ := (he hq).eq
      rw [e8] at e2
      exact e2) xs.length 0 [] (by omega) (Nat.le_refl _)
    rw [List.drop_zero, List.nil_append] at this
    exact this
  unfold eLc
  rw [hi]
  show ((lcI st gt tt te (wipeG Γ is) (xs.length + 1) 0 [] S).bind _) = _
  rw [e1]
  rfl
theorem cons_of {t : EF} {as : AF} {Γ : Gam} {S S1 : Sto} {v : PV} {Qs : List PV → Sto → Prop} (e : t Γ S = .ok v S1) (h : okR (as Γ S1) fun vs S2 => Qs (v :: vs) S2) : okR (aCons t as Γ S) Qs := Pv.W.cons (okR.of e h)
/-- a pair of numbers -/
def prP (p : Nat × Nat) : PV := .con .own .tup [.int (p.1 : Nat), .int (p.2 : Nat)]
end Pv
/-! R4: places and lines that can be reached together; finding them. -/
namespace Law
open PySem PySem.Spec PyProof.Rows L2 Pv
def laterL (r : Rw) (l : Nat) : Nat := if r.l = 0 then l else r.l
/-- a place reached with a line -/
inductive RcL (rows : List Rw) (hds : List Hnd) : Nat × Nat → Prop
  | zero : RcL rows hds (0, 0)
  | step {i l : Nat} {r : Rw} {x : Nat × Option Hnd} (h : RcL rows hds (i, l)) (hr : rows[i]? = some r) (hx : x ∈ exits rows.length hds i r.i) : RcL rows hds (x.1, laterL r l)
section
variable {rows : List Rw} {hds : List Hnd}
/-- all pairs there can be -/
def PP (rows : List Rw) : List (Nat × Nat) := (List.range rows.length).flatMap fun i => (0 :: rows.map Rw.l).map fun l => (i, l)
theorem mem_PP {i l : Nat} : (i, l) ∈ PP rows ↔ i < rows.length ∧ (l = 0 ∨ l ∈ rows.map Rw.l) := by
  unfold PP
  rw [List.mem_flatMap]
  constructor
  · rintro ⟨j, hj, h⟩
    obtain ⟨l', hl, e⟩ := List.mem_map.mp h
    cases e
    exact ⟨List.mem_range.mp hj, List.mem_cons.mp hl⟩
  · rintro ⟨h1, h2⟩
    exact ⟨i, List.mem_range.mpr h1, List.mem_map.mpr ⟨l, List.mem_cons.mpr h2, rfl⟩⟩
theorem cntN {P : List (Nat × Nat)} {fnd : List (Nat × Nat)} {p : Nat × Nat} (hp : p ∈ P) (hn : p ∉ fnd) : P.countP (fun q => decide (q ∉ fnd ++ [p])) + 1 ≤ P.countP (fun q => decide (q ∉ fnd)) := by
  induction P with
  | nil => simp at hp
  | cons x P ih =>
    have mono : P.countP (fun q => decide (q ∉ fnd ++ [p])) ≤ P.countP (fun q => decide (q ∉ fnd)) := List.countP_mono_left fun q _ h => by
      have h := of_decide_eq_true h
      exact decide_eq_true fun k => h (by simp [k])
    rw [List.countP_cons, List.countP_cons]
    by_cases e : x = p
    · subst e
      rw [if_neg (by simp), if_pos (by simpa using hn)]
      omega
    · have ih := ih (by rcases List.mem_cons.mp hp with q | q; exact absurd q.symm e; exact q)
      by_cases k : x ∈ fnd
      · rw [if_neg (by simp [k]), if_neg (by simp [k])]
        omega
      · rw [if_pos (by simp [k, e]), if_pos (by simp [k])]
        omega
/-- what was found so far -/
structure SF0 (rows : List Rw) (hds : List Hnd) (fnd : List (Nat × Nat)) : Prop where
  nod : fnd.Nodup
  sub : ∀ p ∈ fnd, RcL rows hds p ∧ p ∈ PP rows
  few : fnd.length + (PP rows).countP (fun q => decide (q ∉ fnd)) ≤ (PP rows).length + 1
theorem SF0.put {fnd : List (Nat × Nat)} (h : SF0 rows hds fnd) {p : Nat × Nat} (hn : p ∉ fnd) (h1 : RcL rows hds p) (h2 : p ∈ PP rows) : SF0 rows hds (fnd ++ [p]) := by
  refine ⟨?_, fun q hq => ?_, ?_⟩
  · rw [List.nodup_append]
    refine ⟨h.nod, by simp, fun a ha b hb => ?_⟩
    simp at hb
    subst hb
    exact fun e => hn (e ▸ ha)
  · rcases List.mem_append.mp hq with q | q
    · exact h.sub _ q
    · simp at q
      subst q
      exact ⟨h1, h2⟩
  · have := cntN h2 hn
    have := h.few
    rw [List.length_append, List.length_singleton]
    omega
/-- the first n found have been followed -/
def Clo (rows : List Rw) (hds : List Hnd) (fnd : List (Nat × Nat)) (n : Nat) : Prop := ∀ k, k < n → ∀ i l, fnd[k]? = some (i, l) → ∀ r, rows[i]? = some r → ∀ x ∈ exits rows.length hds i r.i, (x.1, laterL r l) ∈ fnd
theorem Clo.app {fnd : List (Nat × Nat)} {n : Nat} (h : Clo rows hds fnd n) (hn : n ≤ fnd.length) (ys : List (Nat × Nat)) : Clo rows hds (fnd ++ ys) n := fun k hk i l e r hr x hx => by
  rw [List.getElem?_append_left (by omega)] at e
  exact List.mem_append_left _ (h k hk i l e r hr x hx)
theorem Clo.all {fnd : List (Nat × Nat)} (h : Clo rows hds fnd fnd.length) (h0 : (0, 0) ∈ fnd) (s : SF0 rows hds fnd) (p : Nat × Nat) : p ∈ fnd ↔ RcL rows hds p := by
  refine ⟨fun q => (s.sub p q).1, fun q => ?_⟩
  induction q with
  | zero => exact h0
  | step _ hr hx ih =>
    obtain ⟨k, hk⟩ := List.getElem?_of_mem ih
    exact h k (List.getElem?_eq_some_iff.mp hk).1 _ _ hk _ hr _ hx
/-- numbers without sign -/
theorem srtI_nat (L : List Nat) : ∃ N : List Nat, srtI (L.map fun n : Nat => (n : Int)) = N.map (fun n : Nat => (n : Int)) ∧ ∀ t, t ∈ N ↔ t ∈ L := by
  have key : ∀ x ∈ srtI (L.map fun n : Nat => (n : Int)), ∃ n ∈ L, (n : Int) = x := fun x hx => by
    rw [mem_srtI] at hx
    exact List.mem_map.mp hx
  have : ∀ X : List Int, (∀ x ∈ X, ∃ n ∈ L, (n : Int) = x) → ∃ N : List Nat, X = N.map (fun n : Nat => (n : Int)) := fun X => by
    induction X with
    | nil => intro _; exact ⟨[], rfl⟩
    | cons x X ih =>
      intro h
      obtain ⟨N, e⟩ := ih fun y hy => h y (by simp [hy])
      obtain ⟨n, _, e2⟩ := h x (by simp)
      exact ⟨n :: N, by rw [e, List.map_cons, e2]⟩
  obtain ⟨N, e⟩ := this _ key
  refine ⟨N, e, fun t => ?_⟩
  have h1 : (t : Int) ∈ srtI (L.map fun n : Nat => (n : Int)) ↔ t ∈ L := by
    rw [mem_srtI, List.mem_map]
    exact ⟨fun ⟨a, ha, q⟩ => (show a = t by omega) ▸ ha, fun h => ⟨t, h, rfl⟩⟩
  rw [← h1, e, List.mem_map]
  exact ⟨fun h => ⟨t, h, rfl⟩, fun ⟨a, ha, q⟩ => (show a = t by omega) ▸ ha⟩
end
end Law
/-! R5: what is kept of rows and handlers. -/
namespace Law
open PySem PySem.Spec PyProof.Rows L2 Pv
/-- how many of the first are kept -/
def plc (K : Nat → Bool) : Nat → Nat
  | 0 => 0
  | k + 1 => plc K k + (K k).toNat
def aimR (K : Nat → Bool) : Itr → Itr
  | .jp t => .jp (plc K t)
  | .ji t => .ji (plc K t)
  | i => i
def aimH (K : Nat → Bool) (h : Hnd) : Hnd := ⟨plc K h.s, plc K h.e, plc K h.t, h.d, h.k⟩
def kpR (K : Nat → Bool) (rows : List Rw) : Nat → List Rw
  | 0 => []
  | k + 1 => kpR K rows k ++ (match rows[k]? with
    | some r => if K k = true then [⟨aimR K r.i, r.l⟩] else []
    | none => [])
def kpH (K : Nat → Bool) (hds : List Hnd) : List Hnd := (hds.filter fun h => decide (plc K h.s < plc K h.e)).map (aimH K)
section
variable {K : Nat → Bool} {rows : List Rw} {hds : List Hnd}
theorem plc_le : ∀ {i j : Nat}, i ≤ j → plc K i ≤ plc K j
  | i, 0, h => by have : i = 0 := by omega
                  subst this; exact Nat.le_refl _
  | i, j + 1, h => by
    by_cases e : i = j + 1
    · subst e; exact Nat.le_refl _
    · have := plc_le (i := i) (j := j) (by omega)
      show plc K i ≤ plc K j + (K j).toNat
      cases K j <;> simp <;> omega
theorem plc_lt {i j : Nat} (h : i < j) (hk : K i = true) : plc K i < plc K j := by
  have h1 := plc_le (K := K) (i := i + 1) (j := j) h
  have : plc K (i + 1) = plc K i + 1 := by show plc K i + (K i).toNat = _; rw [hk]; rfl
  omega
theorem plc_self : ∀ j : Nat, plc K j ≤ j
  | 0 => Nat.le_refl _
  | j + 1 => by
    have := plc_self j
    unfold plc
    cases K j <;> simp <;> omega
theorem plc_inj {i j : Nat} (hi : K i = true) (hj : K j = true) (e : plc K i = plc K j) : i = j := by
  rcases Nat.lt_trichotomy i j with h | h | h
  · have := plc_lt h hi; omega
  · exact h
  · have := plc_lt h hj; omega
theorem kpR_len : ∀ {n}, n ≤ rows.length → (kpR K rows n).length = plc K n
  | 0, _ => rfl
  | n + 1, h => by
    unfold kpR plc
    rw [List.length_append, kpR_len (by omega), List.getElem?_eq_getElem (by omega)]
    cases K n <;> rfl
/-- the kept row of place j stands at place plc j -/
theorem kpR_at : ∀ {n j : Nat} {r : Rw}, n ≤ rows.length → j < n → rows[j]? = some r → K j = true → (kpR K rows n)[plc K j]? = some ⟨aimR K r.i, r.l⟩
  | 0, j, r, _, h, _, _ => by omega
  | n + 1, j, r, hn, h, hr, hk => by
    have l0 := kpR_len (K := K) (rows := rows) (n := n) (by omega)
    unfold kpR
    by_cases e : j = n
    · subst e
      rw [List.getElem?_append_right (by omega), l0, Nat.sub_self, hr]
      simp [hk]
    · rw [List.getElem?_append_left (by rw [l0]; exact plc_lt (by omega) hk)]
      exact kpR_at (by omega) (by omega) hr hk
/-- each kept place has an old one -/
theorem plc_surj : ∀ {n p : Nat}, p < plc K n → ∃ j, j < n ∧ K j = true ∧ plc K j = p
  | 0, p, h => by simp [plc] at h
  | n + 1, p, h => by
    by_cases q : p < plc K n
    · obtain ⟨j, h1, h2, h3⟩ := plc_surj q
      exact ⟨j, by omega, h2, h3⟩
    · unfold plc at h
      cases hk : K n with
      | false => rw [hk] at h; simp at h; omega
      | true => rw [hk] at h; simp at h; exact ⟨n, by omega, hk, by omega⟩
end
end Law
/-! R6: tidy rows: a unit can be made; what is kept of them is tidy. -/
namespace Law
open PySem PySem.Spec PyProof.Rows L2 Pv
/-- rows with consistent depths -/
structure Tidy (rows : List Rw) (hds : List Hnd) (D : Nat → Nat) : Prop where
  raw : Raw rows hds
  cons : ConsD rows hds D
  d0 : D 0 = 0
section
variable {rows : List Rw} {hds : List Hnd} {D : Nat → Nat} {K : Nat → Bool}
theorem Tidy.top (t : Tidy rows hds D) : ∃ ds, topX rows hds = some ds ∧ ds.length = rows.length := by
  have h1 := t.raw.pos
  have h2 := t.raw.len
  obtain ⟨ds, hl, e, _⟩ := depths_DM (m := .own) (by decide) h1 (by omega) t.raw.tgts t.cons t.d0
  rcases depths_X (m := .own) (by decide) h1 (by omega) t.raw.tgts with ⟨ds', e1, e2, e3⟩ | ⟨_, e3⟩
  · exact ⟨ds', e1, e2⟩
  · rw [e] at e3; cases e3
/-- what is kept is what can be reached -/
structure Kr (rows : List Rw) (hds : List Hnd) (K : Nat → Bool) : Prop where
  iff : ∀ i, i < rows.length → (K i = true ↔ Rch rows hds i)
theorem Rch.lt (raw : Raw rows hds) {i : Nat} (h : Rch rows hds i) : i < rows.length := by
  cases h with
  | zero => exact raw.pos
  | step _ hr hx => exact raw.tgts _ _ hr _ hx
theorem Kr.of (k : Kr rows hds K) (raw : Raw rows hds) {i : Nat} (h : Rch rows hds i) : K i = true := (k.iff i (h.lt raw)).mpr h
theorem Kr.ex (k : Kr rows hds K) (raw : Raw rows hds) {j : Nat} {r : Rw} (hr : rows[j]? = some r) (hj : K j = true) {x : Nat × Option Hnd} (hx : x ∈ exits rows.length hds j r.i) : K x.1 = true :=
  k.of raw (.step ((k.iff j (List.getElem?_eq_some_iff.mp hr).1).mp hj) hr hx)
theorem aim_last (i : Itr) : (aimR K i).last = i.last := by cases i <;> rfl
theorem aim_kind (i : Itr) : kindO (aimR K i) = kindO i := by cases i <;> rfl
theorem aim_tgt (i : Itr) : (aimR K i).tgt = i.tgt.map (plc K) := by cases i <;> rfl
theorem aim_rem (i : Itr) : (aimR K i).rem = i.rem := by cases i <;> rfl
theorem aim_push (i : Itr) : (aimR K i).push = i.push := by cases i <;> rfl
theorem aim_good {i : Itr} (h : i.good) : (aimR K i).good := by cases i <;> exact h
theorem plc_iff {j e : Nat} (hj : K j = true) : plc K j < plc K e ↔ j < e := by
  constructor
  · intro h
    apply Nat.lt_of_not_le
    intro q
    have := plc_le (K := K) q
    omega
  · intro h; exact plc_lt h hj
theorem plc_iff2 {j s : Nat} (hj : K j = true) : plc K s ≤ plc K j ↔ s ≤ j := by
  constructor
  · intro h
    apply Nat.le_of_not_lt
    intro q
    have := plc_lt q hj
    omega
  · intro h; exact plc_le h
theorem find_fil {p q : Hnd → Bool} : ∀ {hs : List Hnd}, (∀ h, hs.find? q = some h → p h = true) → (hs.filter p).find? q = hs.find? q
  | [], _ => rfl
  | h :: hs, H => by
    cases hq : q h with
    | true =>
      have hp := H h (by rw [List.find?_cons_of_pos hq])
      rw [List.filter_cons_of_pos hp, List.find?_cons_of_pos hq, List.find?_cons_of_pos hq]
    | false =>
      have ih := find_fil (p := p) (q := q) (hs := hs) fun x hx => H x (by rw [List.find?_cons_of_neg (by simp [hq])]; exact hx)
      rw [List.find?_cons_of_neg (by simp [hq])]
      cases hp : p h with
      | true => rw [List.filter_cons_of_pos hp, List.find?_cons_of_neg (by simp [hq]), ih]
      | false => rw [List.filter_cons_of_neg (by simp [hp]), ih]
/-- handlers whose target is kept -/
def hd2 (K : Nat → Bool) (hds : List Hnd) : List Hnd := hds.filter fun h => K h.t
theorem Kr.exH (k : Kr rows hds K) (raw : Raw rows hds) {j : Nat} {r : Rw} (hr : rows[j]? = some r) (hj : K j = true) : exH (hd2 K hds) j r.i = exH hds j r.i := by
  have ex := fun x hx => k.ex raw hr hj (x := x) (by unfold exits; exact List.mem_append_right _ hx)
  unfold Law.exH at ex ⊢
  cases hk : kindO r.i with
  | none => rfl
  | some w =>
    rw [hk] at ex
    have : (hd2 K hds).find? (rcv j w) = hds.find? (rcv j w) := find_fil fun h hh => by
      have := ex (h.t, some h)
      simp only [hh] at this
      exact this (by simp)
    simp only [this]
theorem rcv_aim {j : Nat} (hj : K j = true) (w : Str) (h : Hnd) : rcv (plc K j) w (aimH K h) = rcv j w h := by
  unfold rcv aimH
  simp only [plc_iff hj, plc_iff2 hj]
theorem find_kp {j : Nat} (hj : K j = true) (w : Str) : ∀ hs : List Hnd, (kpH K hs).find? (rcv (plc K j) w) = (hs.find? (rcv j w)).map (aimH K)
  | [] => rfl
  | h :: hs => by
    have e : kpH K (h :: hs) = (if plc K h.s < plc K h.e then [aimH K h] else []) ++ kpH K hs := by
      unfold kpH
      by_cases q : plc K h.s < plc K h.e
      · simp [List.filter_cons, q]
      · simp [List.filter_cons, q]
    rw [e]
    cases hq : rcv j w h with
    | true =>
      have hm : h.s ≤ j ∧ j < h.e := by
        unfold rcv at hq
        simp only [Bool.and_eq_true] at hq
        exact of_decide_eq_true hq.1
      have : plc K h.s < plc K h.e := Nat.lt_of_le_of_lt ((plc_iff2 hj).mpr hm.1) ((plc_iff hj).mpr hm.2)
      rw [if_pos this, List.find?_cons_of_pos hq]
      show (aimH K h :: kpH K hs).find? _ = _
      rw [List.find?_cons_of_pos (by rw [rcv_aim hj]; exact hq)]
      rfl
    | false =>
      rw [List.find?_cons_of_neg (by simp [hq]), ← find_kp hj w hs]
      split
      · show (aimH K h :: kpH K hs).find? _ = _
        rw [List.find?_cons_of_neg (by rw [rcv_aim hj]; simp [hq])]
      · rfl
/-- the rows that are left -/
abbrev rows3 (K : Nat → Bool) (rows : List Rw) : List Rw := kpR K rows rows.length
abbrev hds3 (K : Nat → Bool) (hds : List Hnd) : List Hnd := kpH K (hd2 K hds)
theorem exits3 (k : Kr rows hds K) (raw : Raw rows hds) {j : Nat} {r : Rw} (hr : rows[j]? = some r) (hj : K j = true) :
    exits (rows3 K rows).length (hds3 K hds) (plc K j) (aimR K r.i) = (exits rows.length hds j r.i).map fun x => (plc K x.1, x.2.map (aimH K)) := by
  have l3 : (rows3 K rows).length = plc K rows.length := kpR_len (Nat.le_refl _)
  have h2 := k.exH raw hr hj
  unfold exits
  rw [List.map_append, List.map_append]
  congr 1
  · congr 1
    · unfold exN
      rw [aim_last, l3]
      have s1 : plc K (j + 1) = plc K j + 1 := by show plc K j + (K j).toNat = _; rw [hj]; rfl
      cases hl : r.i.last with
      | true => rw [if_neg (by simp), if_neg (by simp)]; rfl
      | false =>
        have hn := raw.nxt j r hr hl
        have kn : K (j + 1) = true := k.ex raw hr hj (x := (j + 1, none)) (by unfold exits exN; rw [if_pos ⟨hl, hn⟩]; simp)
        have := plc_lt hn kn
        rw [if_pos ⟨rfl, by omega⟩, if_pos ⟨rfl, hn⟩, ← s1]
        rfl
    · unfold exJ
      rw [aim_tgt]
      cases r.i.tgt <;> rfl
  · rw [← h2]
    unfold Law.exH
    rw [aim_kind]
    cases kindO r.i with
    | none => rfl
    | some w =>
      simp only [find_kp hj]
      cases (hd2 K hds).find? (rcv j w) <;> rfl
end
end Law
/-! R7: what is kept of tidy rows is tidy, and all of it can be reached. -/
namespace Law
open PySem PySem.Spec PyProof.Rows L2 Pv
/-- the old place of a kept one -/
def old (K : Nat → Bool) (n p : Nat) : Nat := ((List.range n).find? fun j => K j && decide (plc K j = p)).getD 0
section
variable {rows : List Rw} {hds : List Hnd} {D : Nat → Nat} {K : Nat → Bool}
theorem old_plc {n j : Nat} (hj : j < n) (kj : K j = true) : old K n (plc K j) = j := by
  unfold old
  cases h : (List.range n).find? fun i => K i && decide (plc K i = plc K j) with
  | none =>
    have := List.find?_eq_none.mp h j (List.mem_range.mpr hj)
    simp [kj] at this
  | some i =>
    have := List.find?_some h
    simp only [Bool.and_eq_true, decide_eq_true_eq] at this
    exact plc_inj this.1 kj this.2
theorem at3 {p : Nat} {r3 : Rw} (h : (rows3 K rows)[p]? = some r3) : ∃ j r, j < rows.length ∧ K j = true ∧ plc K j = p ∧ rows[j]? = some r ∧ r3 = ⟨aimR K r.i, r.l⟩ := by
  have hp := (List.getElem?_eq_some_iff.mp h).1
  rw [kpR_len (Nat.le_refl _)] at hp
  obtain ⟨j, hj, kj, e⟩ := plc_surj hp
  have hr := List.getElem?_eq_getElem hj
  have := kpR_at (K := K) (Nat.le_refl rows.length) hj hr kj
  subst e
  rw [h] at this
  exact ⟨j, rows[j], hj, kj, rfl, hr, Option.some.inj this⟩
theorem Tidy.raw3 (t : Tidy rows hds D) (k : Kr rows hds K) : Raw (rows3 K rows) (hds3 K hds) := by
  have l3 : (rows3 K rows).length = plc K rows.length := kpR_len (Nat.le_refl _)
  have k0 : K 0 = true := k.of t.raw .zero
  refine ⟨?_, ?_, fun p r3 h => ?_, fun p r3 h hl => ?_, fun p r3 h u hu => ?_, fun h3 hh => ?_, ?_⟩
  · rw [l3]
    exact Nat.le_trans (plc_self _) t.raw.len
  · rw [l3]
    have := plc_lt t.raw.pos k0
    omega
  · obtain ⟨j, r, hj, kj, e, hr, rfl⟩ := at3 h
    obtain ⟨g1, g2⟩ := t.raw.good j r hr
    exact ⟨aim_good g1, g2⟩
  · obtain ⟨j, r, hj, kj, e, hr, rfl⟩ := at3 h
    rw [aim_last] at hl
    have hn := t.raw.nxt j r hr hl
    have kn : K (j + 1) = true := k.ex t.raw hr kj (x := (j + 1, none)) (by unfold exits exN; rw [if_pos ⟨hl, hn⟩]; simp)
    have := plc_lt hn kn
    have s1 : plc K (j + 1) = plc K j + 1 := by show plc K j + (K j).toNat = _; rw [kj]; rfl
    rw [l3]
    omega
  · obtain ⟨j, r, hj, kj, e, hr, rfl⟩ := at3 h
    rw [aim_tgt] at hu
    obtain ⟨v, hv, rfl⟩ := Option.map_eq_some_iff.mp hu
    have kv : K v = true := k.ex t.raw hr kj (x := (v, none)) (by unfold exits exJ; rw [hv]; simp)
    rw [l3]
    exact plc_lt (t.raw.tgt j r hr v hv) kv
  · unfold hds3 kpH at hh
    obtain ⟨h, hm, rfl⟩ := List.mem_map.mp hh
    obtain ⟨hm, q⟩ := List.mem_filter.mp hm
    obtain ⟨hm, kt⟩ := List.mem_filter.mp hm
    obtain ⟨a, b, c, d, e⟩ := t.raw.hd h hm
    refine ⟨a, of_decide_eq_true q, ?_, ?_, e⟩
    · rw [l3]; exact plc_le c
    · rw [l3]; exact plc_lt d kt
  · have h1 : (hds3 K hds).length ≤ (hd2 K hds).length := by
      unfold hds3 kpH
      rw [List.length_map]
      exact List.length_filter_le _ _
    have h2 : (hd2 K hds).length ≤ hds.length := List.length_filter_le _ _
    have := t.raw.few
    omega
theorem Tidy.kept (t : Tidy rows hds D) (k : Kr rows hds K) : Tidy (rows3 K rows) (hds3 K hds) fun p => D (old K rows.length p) := by
  have k0 : K 0 = true := k.of t.raw .zero
  refine ⟨t.raw3 k, fun p r3 h => ?_, ?_⟩
  · obtain ⟨j, r, hj, kj, e, hr, rfl⟩ := at3 h
    subst e
    obtain ⟨c1, c2⟩ := t.cons j r hr
    have oj := old_plc hj kj
    rw [aim_rem, aim_push, exits3 k t.raw hr kj]
    simp only [oj]
    refine ⟨c1, fun x3 hx3 => ?_⟩
    obtain ⟨x, hx, rfl⟩ := List.mem_map.mp hx3
    obtain ⟨d1, d2⟩ := c2 x hx
    have kx := k.ex t.raw hr kj hx
    have lx := t.raw.tgts j r hr x hx
    refine ⟨fun h3 hh3 => ?_, ?_⟩
    · obtain ⟨h, hh, rfl⟩ := Option.map_eq_some_iff.mp hh3
      exact d1 h hh
    · dsimp only
      rw [old_plc lx kx, ← d2]
      unfold wantd
      cases x.2 <;> rfl
  · show D (old K rows.length 0) = 0
    have := old_plc (K := K) t.raw.pos k0
    have e : plc K 0 = 0 := rfl
    rw [e] at this
    rw [this]
    exact t.d0
end
end Law
/-! F1: folding, plain. -/
namespace Law
open PySem PySem.Spec PyProof.Rows L2 Pv
def lim (x : Int) : Option Itr := if x > 1000000000000000000000000000000 ∨ x < -1000000000000000000000000000000 then none else some (.c x)
/-- k rows from place i on replaced -/
def put (ns : List Rw) (i k : Nat) (r : Itr) : List Rw := ns.mapIdx fun j x => if j = i then ⟨r, x.l⟩ else if i < j ∧ j < i + k then ⟨.op .skip, 0⟩ else x
/-- the row at place j goes with the depths D -/
structure NR (n : Nat) (E : List Nat) (hds : List Hnd) (D : Nat → Nat) (j : Nat) (r : Rw) : Prop where
  good : r.good
  rem : r.i.rem ≤ D j
  nxt : r.i.last = false → j + 1 < n ∧ D (j + 1) = D j - r.i.rem + r.i.push
  tgt : ∀ t, r.i.tgt = some t → t < n ∧ t ∈ E ∧ D t = D j - r.i.rem + r.i.push
  rai : kindO r.i ≠ none → ∀ h ∈ hds, h.s ≤ j → j < h.e → h.d ≤ D j
/-- rows of which a unit can be made -/
structure Fit (E : List Nat) (rows : List Rw) (hds : List Hnd) (D : Nat → Nat) : Prop where
  len : rows.length ≤ 200
  pos : 0 < rows.length
  d0 : D 0 = 0
  row : ∀ j r, rows[j]? = some r → NR rows.length E hds D j r
  hd : ∀ h ∈ hds, h.good ∧ h.s < h.e ∧ h.e ≤ rows.length ∧ h.t < rows.length ∧ h.t ∈ E ∧ D h.t = h.d ∧ h.d ≤ 200
  few : hds.length < 200000
  last : ∃ r, rows[rows.length - 1]? = some r ∧ r.i.last = true
/-- all places that are entered -/
def entR (rows : List Rw) (hds : List Hnd) : List Nat := (rows.filterMap fun r => r.i.tgt) ++ hds.map fun h => h.t
theorem Small.fit {rows : List Rw} {hds : List Hnd} (s : Small rows hds) : ∃ D, Fit (entR rows hds) rows hds D := by
  obtain ⟨D, d0, sg⟩ := s.pr.dep
  have hp := s.pr.pos
  refine ⟨D, Nat.le_trans s.pr.len (by decide), hp, d0, fun j r hr => ?_, fun h hh => ?_, by have := s.few; have := s.pr.len; omega, s.pr.last⟩
  · have rk := sg.row j r hr
    rw [Nat.zero_add] at rk
    have hj := (List.getElem?_eq_some_iff.mp hr).1
    refine ⟨rk.good, rk.rem, fun z => ⟨?_, rk.nxt z⟩, fun t ht => ?_, fun _ h hh h1 h2 => (sg.hd h hh).cov j h1 h2⟩
    · obtain ⟨r', hr', hl⟩ := s.pr.last
      by_cases c : j + 1 < rows.length
      · exact c
      · have : j = rows.length - 1 := by omega
        rw [← this, hr] at hr'
        cases hr'
        rw [hl] at z
        cases z
    · obtain ⟨t1, t2, t3⟩ := rk.tgt t ht
      refine ⟨by omega, ?_, t3⟩
      unfold entR
      exact List.mem_append_left _ (List.mem_filterMap.mpr ⟨r, List.mem_of_getElem? hr, ht⟩)
  · have hd := sg.hd h hh
    refine ⟨hd.good, hd.se, by have := hd.e1; omega, by have := hd.t1; omega, ?_, hd.dt, s.low h hh⟩
    unfold entR
    exact List.mem_append_right _ (List.mem_map_of_mem hh)
end Law
/-! R9: small programs are tidy; their units. -/
namespace Law
open PySem PySem.Spec PyProof.Rows L2 Pv
section
variable {rows : List Rw} {hds : List Hnd}
theorem Small.neat (s : Small rows hds) : ∃ D, Tidy rows hds D := by
  obtain ⟨D, d0, c⟩ := s.cons
  refine ⟨D, ⟨?_, c, d0⟩⟩
  obtain ⟨D, f⟩ := s.fit
  have h1 := f.len
  have h2 := f.few
  exact ⟨h1, f.pos, fun j r hr => (f.row j r hr).good, fun j r hr q => ((f.row j r hr).nxt q).1, fun j r hr t ht => ((f.row j r hr).tgt t ht).1, fun x hx => by
    obtain ⟨g, a, b, c, _, _, d⟩ := f.hd x hx
    exact ⟨g, a, by omega, c, d⟩, by omega⟩
theorem Raw.made (raw : Raw rows hds) {ds : List (Option Nat)} (top : topX rows hds = some ds) {m1 m2 m3 : Md} {k1 k2 k3 : Kd} (q1 : k1 = .lst ∨ k1 = .tup) (q2 : k2 = .lst ∨ k2 = .tup) (q3 : k3 = .lst ∨ k3 = .tup) (o1 : tm m1 k1 = .own) (o2 : tm m2 k2 = .own) (o3 : tm m3 k3 = .own) :
    i_Unit_init [.con m1 k1 (pvs rows), .con m2 k2 (lns rows), .con m3 k3 (hvs hds)] = .ok (unitM .own .own (pvs rows) (lns rows) (hvs hds) (depP ds)) := by
  rcases raw.unit (m1 := m1) (m2 := m2) (m3 := m3) q1 q2 q3 o1 (by rw [o2]; decide) (by rw [o3]; decide) with ⟨ds', e, _, h⟩ | ⟨e, _⟩
  · rw [top] at e
    cases e
    rw [o2, o3] at h
    exact h
  · rw [top] at e; cases e
/-- the unit of a small program, its lists lent -/
theorem Small.made (s : Small rows hds) : ∃ ds, topX rows hds = some ds ∧ ds.length = rows.length ∧ Raw rows hds ∧ clean (unitM .own .own (pvs rows) (lns rows) (hvs hds) (depP ds)) = true ∧
    i_Unit_init [.con .lent .lst (pvs rows), .con .lent .lst (lns rows), .con .lent .lst (hvs hds)] = .ok (unitM .own .own (pvs rows) (lns rows) (hvs hds) (depP ds)) := by
  obtain ⟨D, t⟩ := s.neat
  obtain ⟨ds, top, hl⟩ := t.top
  exact ⟨ds, top, hl, t.raw, unit_cl t.raw.vals (by decide) (by decide) ds, t.raw.made top (Or.inl rfl) (Or.inl rfl) (Or.inl rfl) rfl rfl rfl⟩
theorem pvs_cl (rows : List Rw) : cleans (pvs rows) = true := by
  unfold pvs
  induction rows with
  | nil => rfl
  | cons r rows ih => rw [List.map_cons]; unfold cleans; rw [clean_itr r.i, ih]; rfl
theorem lns_cl (rows : List Rw) : cleans (lns rows) = true := by
  unfold lns
  induction rows with
  | nil => rfl
  | cons r rows ih => rw [List.map_cons]; unfold cleans; rw [ih]; rfl
theorem hvs_cl (hds : List Hnd) : cleans (hvs hds) = true := cleans_hnds hds
theorem lend3 {S : Sto} {c l h : Nat} (hc : S[c]? = some (some (.lst, pvs rows))) (hl : S[l]? = some (some (.lst, lns rows))) (hh : S[h]? = some (some (.lst, hvs hds))) :
    [PV.ref c, .ref l, .ref h].mapM (lendV S) = some [.con .lent .lst (pvs rows), .con .lent .lst (lns rows), .con .lent .lst (hvs hds)] := by
  simp only [List.mapM_cons, List.mapM_nil, lendR hc (pvs_cl _), lendR hl (lns_cl _), lendR hh (hvs_cl _)]
  rfl
end
end Law
/-! X3a: exits, the law's. -/
/-! Tw1: rows as texts. -/
namespace Law
open PySem PySem.Spec PyProof.Rows L2 Pv
/-- what stands in a row: a number of at most 31 figures, a text of at most 40 signs -/
def WP : PV → Prop
  | .int i => i.natAbs.log2 < 1920 ∧ (Str.ofString (toString i)).length ≤ 40
  | .str w => w.length ≤ 40
  | _ => False
def strW : PV → Str
  | .int i => Str.ofString (toString i)
  | .str w => w
  | _ => ""
theorem strF_ok {x : PV} (h : WP x) {S : Sto} : strF [x] S = some (.str (strW x), S) := by
  cases x with
  | int i => exact if_pos h.1
  | str w => rfl
  | _ => exact h.elim
theorem strW_len {x : PV} (h : WP x) : (strW x).length ≤ 40 := by
  cases x with
  | int i => exact h.2
  | str w => exact h
  | _ => exact h.elim
theorem strsOf_map (ys : List Str) : strsOf (ys.map PV.str) = some ys := by
  induction ys with
  | nil => rfl
  | cons y ys ih => rw [List.map_cons]; unfold strsOf; rw [ih]; rfl
theorem sum_le {ys : List Str} {k : Nat} (h : ∀ y ∈ ys, y.length ≤ k) : (ys.map fun y : Str => y.length).sum ≤ ys.length * k := by
  induction ys with
  | nil => simp
  | cons y ys ih =>
    rw [List.map_cons, List.sum_cons, List.length_cons, Nat.succ_mul]
    have := h y List.mem_cons_self
    have := ih fun z hz => h z (List.mem_cons_of_mem _ hz)
    omega
theorem joinF_ok {S : Sto} {m : Md} {a : Str} {ys : List Str} {k : Nat} (hm : m = .own) (h : ∀ y ∈ ys, y.length ≤ k) (hz : ys.length * k + ys.length * a.length ≤ 16777216) : joinF (.str a) [.con m .lst (ys.map PV.str)] S = some (.str (Txt.join a ys), S) := by
  subst hm
  have := sum_le h
  unfold joinF
  show (match strsOf (ys.map PV.str) with
    | some ys => if (ys.map fun y : Str => y.length).sum + ys.length * a.length ≤ 16777216 then some (PV.str (Txt.join a ys), S) else none
    | none => none) = _
  rw [strsOf_map]
  simp only
  rw [if_pos (by omega)]
/-- a row of a line and an instruction -/
theorem row_text_ok {l : PV} {xs : List PV} (hl : WP l) (hx : ∀ x ∈ xs, WP x) (hz : xs.length ≤ 10) : f_row_text [l, .con .own .tup xs] = .ok (.str (Txt.join " " (strW l :: xs.map strW))) := by
  have sl := fun S => strF_ok (S := S) hl
  refine Pv.W.rdP rfl ?_
  show rsP (body_row_text [some l, some (.con .own .tup xs), none] []) _
  unfold body_row_text
  have hi : iAny (eV 1) [some l, some (.con .own .tup xs), none] [] = .ok (stL (xs.map fun x => x), xs.length + 1) [] := by
    have e : eV 1 [some l, some (.con .own .tup xs), none] [] = .ok (.con .own .tup xs) [] := rfl
    rw [iAny_eq, e, anyK_tup, List.map_id']
  generalize hΓ : [some l, some (PV.con .own .tup xs), none] = Γ at hi ⊢
  have g0 : Γ[0]? = some (some l) := by rw [← hΓ]; rfl
  have gl : Γ.length = 3 := by rw [← hΓ]; rfl
  have lc := lcA_eq (mu := false) (Γ := Γ) (S := []) (gt := gN 2) (tt := bYes) (te := eCall strF (aCons (eV 2) aNil)) (is := [2]) (xs := xs) (fun x => x) (fun _ => true) (fun x => PV.str (strW x)) hi (fun i => rfl) (by omega)
    (fun x hx' => by
      have q2 : ((wipeG Γ [2]).set 2 (some x))[2]? = some (some x) := by simp [wipeG, gl]
      exact ⟨_, rfl, ⟨rfl, rfl⟩, fun _ => Pv.W.call (Pv.W.cons (Pv.W.var q2 (Pv.W.nil ⟨_, _, strF_ok (hx x hx'), rfl, rfl⟩)))⟩)
  rw [List.filter_eq_self.mpr (by simp)] at lc
  have e1 : [PV.str (strW l)] ++ (xs.map fun x => PV.str (strW x)) = (strW l :: xs.map strW).map PV.str := by
    rw [List.map_cons, List.map_map]
    rfl
  have hj := joinF_ok (S := []) (m := .own) (a := " ") (ys := strW l :: xs.map strW) (k := 40) rfl (fun y hy => by
    rcases List.mem_cons.mp hy with rfl | hy
    · exact strW_len hl
    · obtain ⟨x, h1, rfl⟩ := List.mem_map.mp hy
      exact strW_len (hx x h1)) (by
      have : (strW l :: xs.map strW).length ≤ 11 := by rw [List.length_cons, List.length_map]; omega
      have h1 : (" " : Str).length = 1 := by decide
      rw [h1]
      omega)
  generalize hT : eLc false (iAny (eV 1)) (gN 2) bYes (eCall strF (aCons (eV 2) aNil)) [2] = T at lc ⊢
  have h1 : okR (eLst false (aCons (eCall strF (aCons (eV 0) aNil)) aNil) Γ []) fun v S => v = .con .own .lst [.str (strW l)] ∧ S = [] := by
    have : okR (aCons (eCall strF (aCons (eV 0) aNil)) aNil Γ []) fun vs S => vs = [.str (strW l)] ∧ S = [] := Pv.W.cons (Pv.W.call (Pv.W.cons (Pv.W.var g0 (Pv.W.nil ⟨_, _, sl _, Pv.W.nil ⟨rfl, rfl⟩⟩))))
    obtain ⟨v, S, e, rfl, rfl⟩ := this.eq
    refine okR.of (v := .con .own .lst [.str (strW l)]) (S := []) ?_ ⟨rfl, rfl⟩
    unfold eLst
    rw [e]
    show (if 1 ≤ sizeLine then R.ok (newP false .lst [.str (strW l)] []).1 (newP false .lst [.str (strW l)] []).2 else .bad) = _
    rw [if_pos (by rw [sizeLine_eq]; omega)]
    rfl
  obtain ⟨v, S, e2, rfl, rfl⟩ := h1.eq
  have e3 : addF false (.con .own .lst [.str (strW l)]) (.con .own .lst (xs.map fun x => PV.str (strW x))) [] = some (.con .own .lst ((strW l :: xs.map strW).map PV.str), []) := by
    rw [addF_lst (m := false) (by decide) (by decide) (by simp; omega), e1]
    rfl
  refine Pv.W.ret (Pv.W.meth (Pv.W.con ⟨rfl, Pv.W.cons (Pv.W.op (okR.of e2 (okR.of lc ⟨_, _, e3, Pv.W.nil ⟨_, _, hj, ⟨_, _, rfl, rfl⟩⟩⟩))) ⟩))
end Law
/-! Tw2: handlers as texts. -/
namespace Law
open PySem PySem.Spec PyProof.Rows L2 Pv
theorem len_app (a b : Str) : (a ++ b).length = a.length + b.length := by
  rw [TL.len_tl, TL.len_tl, TL.len_tl, TL.tl_append, List.length_append]
theorem eJs_ok {Γ : Gam} {S : Sto} : ∀ (l : List (EF × Str)) (acc : Str), (∀ p ∈ l, p.1 Γ S = .ok (.str p.2) S) → acc.length + (l.map fun p => p.2.length).sum ≤ 16777216 → eJs (l.map fun p => p.1) acc Γ S = .ok (.str ((l.map fun p => p.2).foldl (fun a b => a ++ b) acc)) S
  | [], acc, _, _ => rfl
  | (t, y) :: l, acc, h, hz => by
    have h1 : t Γ S = .ok (.str y) S := h (t, y) List.mem_cons_self
    have hl := len_app acc y
    rw [List.map_cons, List.sum_cons] at hz
    have hz : acc.length + (y.length + (l.map fun p => p.2.length).sum) ≤ 16777216 := hz
    have ih := eJs_ok l (acc ++ y) (fun p hp => h p (List.mem_cons_of_mem _ hp)) (by omega)
    show (t Γ S).bind _ = _
    rw [h1]
    show (if (acc ++ y).length ≤ sizeLine then eJs (l.map fun p => p.1) (acc ++ y) Γ S else .bad) = _
    rw [if_pos (by rw [sizeLine_eq]; omega), ih]
    rfl
/-- what stands for a kind -/
def kdW : Option Str → Str
  | none => "any"
  | some w => w
def hdW (h : Hnd) : List Str := ["handler", Str.ofString (toString ((h.s : Nat) : Int)), Str.ofString (toString ((h.e : Nat) : Int)), Str.ofString (toString ((h.t : Nat) : Int)), Str.ofString (toString ((h.d : Nat) : Int)), kdW h.k]
/-- numbers that can be written -/
def NW (n : Nat) : Prop := ((n : Nat) : Int).natAbs.log2 < 1920 ∧ (Str.ofString (toString ((n : Nat) : Int))).length ≤ 40
theorem join6 (a b c d e f : Str) : Txt.join " " [a, b, c, d, e, f] = ((((((((((Str.empty ++ (a ++ " ")) ++ b) ++ " ") ++ c) ++ " ") ++ d) ++ " ") ++ e) ++ " ") ++ f) := by
  refine TL.ext_tl ?_
  have e0 : TL.tl Str.empty = [] := rfl
  rw [TL.join_eq, TL.tl_join]
  simp only [TL.tl_append, List.map_cons, List.map_nil, TL.joinL, List.append_assoc, e0, List.nil_append]
theorem handler_text_ok {h : Hnd} (h1 : NW h.s) (h2 : NW h.e) (h3 : NW h.t) (h4 : NW h.d) (h5 : (kdW h.k).length ≤ 40) : f_handler_text [h.pv] = .ok (.str (Txt.join " " (hdW h))) := by
  refine Pv.W.rdP rfl ?_
  show rsP (body_handler_text [some h.pv, none, none, none, none, none] []) _
  have fm : ∀ {Γ : Gam} {i n : Nat}, NW n → Γ[i]? = some (some (.int (n : Nat))) → eFmt (eV i) Γ [] = .ok (.str (Str.ofString (toString ((n : Nat) : Int)))) [] := fun {Γ i n} hn hg => by
    have e : eV i Γ [] = .ok (.int (n : Nat)) [] := by unfold eV; rw [hg]
    unfold eFmt
    rw [e]
    show (if ((n : Nat) : Int).natAbs.log2 < 1920 then R.ok (PV.str (toString ((n : Nat) : Int))) [] else .bad) = _
    rw [if_pos hn.1]
  have fs : ∀ {Γ : Gam} {i : Nat} {w : Str}, w.length ≤ 40 → Γ[i]? = some (some (.str w)) → eFmt (eV i) Γ [] = .ok (.str w) [] := fun {Γ i w} hn hg => by
    have e : eV i Γ [] = .ok (.str w) [] := by unfold eV; rw [hg]
    unfold eFmt
    rw [e]
    show (if w.length ≤ sizeLine then R.ok (PV.str w) [] else .bad) = _
    rw [if_pos (by rw [sizeLine_eq]; omega)]
  have main : ∀ Γ : Gam, Γ[1]? = some (some (.int (h.s : Nat))) → Γ[2]? = some (some (.int (h.e : Nat))) → Γ[3]? = some (some (.int (h.t : Nat))) → Γ[4]? = some (some (.int (h.d : Nat))) → Γ[5]? = some (some (.str (kdW h.k))) →
      rsP (r0_handler_text Γ []) fun r => ∃ u S, r = .rt u S ∧ resP S u = .ok (.str (Txt.join " " (hdW h))) := fun Γ g1 g2 g3 g4 g5 => by
    have js := eJs_ok (Γ := Γ) (S := []) [(eC (.str "handler "), "handler "), (eFmt (eV 1), Str.ofString (toString ((h.s : Nat) : Int))), (eC (.str " "), " "), (eFmt (eV 2), Str.ofString (toString ((h.e : Nat) : Int))), (eC (.str " "), " "), (eFmt (eV 3), Str.ofString (toString ((h.t : Nat) : Int))), (eC (.str " "), " "), (eFmt (eV 4), Str.ofString (toString ((h.d : Nat) : Int))), (eC (.str " "), " "), (eFmt (eV 5), kdW h.k)] Str.empty
      (fun p hp => by
        simp only [List.mem_cons, List.not_mem_nil, or_false] at hp
        rcases hp with rfl | rfl | rfl | rfl | rfl | rfl | rfl | rfl | rfl | rfl
        · rfl
        · exact fm h1 g1
        · rfl
        · exact fm h2 g2
        · rfl
        · exact fm h3 g3
        · rfl
        · exact fm h4 g4
        · rfl
        · exact fs h5 g5) (by
        have a1 : ("handler " : Str).length = 8 := by decide
        have a2 : (" " : Str).length = 1 := by decide
        have a3 : (Str.empty).length = 0 := by decide
        have := h1.2
        have := h2.2
        have := h3.2
        have := h4.2
        simp only [List.map_cons, List.map_nil, List.sum_cons, List.sum_nil, a1, a2, a3]
        omega)
    unfold r0_handler_text
    refine Pv.W.ret (okR.of js ⟨_, _, rfl, ?_⟩)
    have ee : ("handler " : Str) = "handler" ++ " " := by decide
    unfold hdW
    rw [join6]
    show RP.ok (PV.str _) = _
    rw [← ee]
    rfl
  unfold body_handler_text
  generalize hR : r0_handler_text = R0 at main ⊢
  refine Pv.W.seq (Pv.W.asg (Pv.W.var rfl ?_))
  refine okR.of (v := [some h.pv, some (.int (h.s : Nat)), some (.int (h.e : Nat)), some (.int (h.t : Nat)), some (.int (h.d : Nat)), some (okP h.k)]) (S := []) rfl (Pv.W.go ?_)
  cases hk : h.k with
  | none =>
    rw [hk] at main
    walk_at "w"
    exact main _ rfl rfl rfl rfl rfl
  | some w =>
    rw [hk] at main
    walk_at "w"
    exact main _ rfl rfl rfl rfl rfl
end Law
/-! Tw3: which numbers can be written. -/
namespace Law
open PySem PySem.Spec PyProof.Rows L2 Pv
theorem log2_small {n : Nat} (h : n < 10 ^ 31) : n.log2 < 1920 := by
  by_cases h0 : n = 0
  · subst h0; decide
  · have : n.log2 < 104 := (Nat.log2_lt h0).mpr (Nat.lt_of_lt_of_le h (by decide))
    omega
theorem num_len {n : Nat} (h : n < 10 ^ 31) : (Str.ofString (toString ((n : Nat) : Int))).length ≤ 31 := by
  rw [TL.len_tl, TL.tl_num]
  exact TL.numL_len (by decide) h
theorem nw {n : Nat} (h : n < 10 ^ 31) : NW n := ⟨by rw [Int.natAbs_natCast]; exact log2_small h, by have := num_len h; omega⟩
theorem tl_ofS (s : String) : TL.tl (Str.ofString s) = s.toList.map Char.toNat := signs_ofString s
theorem neg_text {n : Nat} (h : 0 < n) : Str.ofString (toString (-((n : Nat) : Int))) = "-" ++ Str.ofString (toString ((n : Nat) : Int)) := by
  refine TL.ext_tl ?_
  rw [TL.tl_append, toString_neg (by omega), tl_ofS, tl_ofS, show (0 : Int) - (-((n : Nat) : Int)) = ((n : Nat) : Int) by omega, String.toList_append, List.map_append, tl_ofS]
theorem wp_int {i : Int} (h1 : -(10 ^ 30) ≤ i) (h2 : i ≤ 10 ^ 30) : WP (.int i) := by
  by_cases h : 0 ≤ i
  · obtain ⟨n, rfl⟩ : ∃ n : Nat, i = n := ⟨i.toNat, by omega⟩
    exact nw (n := n) (by omega)
  · obtain ⟨n, rfl⟩ : ∃ n : Nat, i = -((n : Nat) : Int) := ⟨(-i).toNat, by omega⟩
    have hn : n < 10 ^ 31 := by omega
    refine ⟨by rw [Int.natAbs_neg, Int.natAbs_natCast]; exact log2_small hn, ?_⟩
    rw [neg_text (by omega), len_app]
    have := num_len hn
    have h1 : ("-" : Str).length = 1 := by decide
    omega
end Law
/-! Tn1: numbers that words stand for, as plain data. -/
namespace Law
open PySem PySem.Spec PyProof.Rows L2 Pv
def dgB (c : Nat) : Bool := decide (48 ≤ c ∧ c ≤ 57)
def figs (a : Int) (l : List Nat) : List Nat := if l.head? = some 45 ∧ a < 0 then l.tail else l
/-- the form of a number with at most L figures -/
structure FormN (L : Nat) (a : Int) (l : List Nat) : Prop where
  ne : figs a l ≠ []
  len : (figs a l).length ≤ L
  dg : (figs a l).all dgB = true
  lead : (figs a l).head? = some 48 → (figs a l).length ≤ 1 ∧ figs a l = l
def valI (l : List Nat) : Int := if l.head? = some 45 then -((NumText.digitsVal l.tail : Nat) : Int) else ((NumText.digitsVal l : Nat) : Int)
structure NumR (L : Nat) (a b : Int) (l : List Nat) : Prop where
  f : FormN L a l
  lo : a ≤ valI l
  hi : valI l ≤ b
instance {L : Nat} {a : Int} {l : List Nat} : Decidable (FormN L a l) := decidable_of_iff (figs a l ≠ [] ∧ (figs a l).length ≤ L ∧ (figs a l).all dgB = true ∧ ((figs a l).head? = some 48 → (figs a l).length ≤ 1 ∧ figs a l = l)) ⟨fun ⟨a, b, c, d⟩ => ⟨a, b, c, d⟩, fun ⟨a, b, c, d⟩ => ⟨a, b, c, d⟩⟩
instance {L : Nat} {a b : Int} {l : List Nat} : Decidable (NumR L a b l) := decidable_of_iff (FormN L a l ∧ a ≤ valI l ∧ valI l ≤ b) ⟨fun ⟨a, b, c⟩ => ⟨a, b, c⟩, fun ⟨a, b, c⟩ => ⟨a, b, c⟩⟩
theorem dg_all {l : List Nat} : l.all dgB = true ↔ NumText.AllDigits l := by
  rw [List.all_eq_true]
  unfold NumText.AllDigits dgB
  simp
theorem FormN.int {L : Nat} {a : Int} {w : Str} (h : FormN L a (TL.tl w)) (hl : w.length ≤ 4300) : PySem.intText? w = some (valI (TL.tl w)) := by
  have e : w.cps.toList = TL.tl w := rfl
  have d := dg_all.mp h.dg
  have ne := h.ne
  unfold figs at d ne
  unfold valI
  by_cases c : (TL.tl w).head? = some 45 ∧ a < 0
  · rw [if_pos c] at d ne
    rw [if_pos c.1]
    obtain ⟨x, r, er⟩ : ∃ x r, TL.tl w = x :: r := by
      cases q : TL.tl w with
      | nil => rw [q] at c; cases c.1
      | cons x r => exact ⟨x, r, rfl⟩
    rw [er] at c d ne ⊢
    have : x = 45 := by simpa using c.1
    subst this
    exact PySem.intText_neg (by rw [e, er]; rfl) d ne hl
  · rw [if_neg c] at d ne
    have : ¬ (TL.tl w).head? = some 45 := fun z => by
      cases q : TL.tl w with
      | nil => exact ne q
      | cons x r =>
        rw [q] at z d
        have : x = 45 := by simpa using z
        have := d x List.mem_cons_self
        omega
    rw [if_neg this]
    exact PySem.intText_digits (by rw [e]; exact d) (by rw [e]; exact ne) hl
/-! more figures than L: too great -/
theorem val_ge : ∀ {l : List Nat} {c : Nat}, 49 ≤ c → 10 ^ l.length ≤ NumText.digitsVal (c :: l) := by
  have go : ∀ (l : List Nat) (acc : Nat), acc * 10 ^ l.length ≤ l.foldl (fun acc c => acc * 10 + (c - 48)) acc := by
    intro l
    induction l with
    | nil => intro acc; simp
    | cons c l ih =>
      intro acc
      rw [List.foldl_cons, List.length_cons, Nat.pow_succ]
      refine Nat.le_trans ?_ (ih _)
      have : acc * (10 ^ l.length * 10) = acc * 10 * 10 ^ l.length := by rw [Nat.mul_comm (10 ^ l.length), Nat.mul_assoc]
      rw [this]
      exact Nat.mul_le_mul_right _ (by omega)
  intro l c h
  unfold NumText.digitsVal
  rw [List.foldl_cons]
  have := go l (0 * 10 + (c - 48))
  refine Nat.le_trans ?_ this
  exact Nat.le_mul_of_pos_left _ (by omega)
theorem NumR.len {L : Nat} {a b : Int} {l : List Nat} (h : NumR L a b l) (ha : -(10 ^ 30) ≤ a) (hb : b ≤ 10 ^ 30) : (figs a l).length ≤ 31 := by
  obtain ⟨⟨ne, len, dg, lead⟩, lo, hi⟩ := h
  have d := dg_all.mp dg
  cases q : figs a l with
  | nil => simp
  | cons c r =>
    rw [q] at d lead
    by_cases hc : c = 48
    · have := (lead (by simp [hc])).1
      omega
    · have h1 := d c List.mem_cons_self
      have h2 := val_ge (l := r) (c := c) (by omega)
      have h3 : NumText.digitsVal (c :: r) ≤ 10 ^ 30 := by
        unfold valI at lo hi
        unfold figs at q
        split at q
        · rename_i z
          rw [if_pos z.1, q] at lo
          omega
        · rename_i z
          subst q
          have : ¬ (c :: r).head? = some 45 := fun z => by
            have : c = 45 := by simpa using z
            omega
          rw [if_neg this] at hi
          omega
      rw [List.length_cons]
      have : 10 ^ r.length < 10 ^ 31 := by omega
      have := (Nat.pow_lt_pow_iff_right (a := 10) (by decide)).mp this
      omega
theorem NumR.any {L M : Nat} {a b : Int} {l : List Nat} (h : NumR L a b l) (hM : 31 ≤ M) (ha : -(10 ^ 30) ≤ a) (hb : b ≤ 10 ^ 30) : NumR M a b l := by
  have := h.len ha hb
  exact ⟨⟨h.f.ne, by omega, h.f.dg, h.f.lead⟩, h.lo, h.hi⟩
/-! the number that a written number stands for -/
theorem tl_neg {n : Nat} (h : 0 < n) : TL.tl (Str.ofString (toString (-((n : Nat) : Int)))) = 45 :: TL.numL n := by
  rw [neg_text h, TL.tl_append, TL.tl_num]
  rfl
theorem numL_lead : ∀ {n : Nat}, (TL.numL n).head? = some 48 → (TL.numL n).length ≤ 1 := by
  intro n h
  by_cases h0 : n < 10
  · rw [TL.numL_lt h0]; simp
  · exfalso
    have : ∀ n : Nat, 0 < n → (TL.numL n).head? ≠ some 48 := by
      intro n
      induction n using Nat.strongRecOn with
      | _ n ih =>
        intro hp
        by_cases h : n < 10
        · rw [TL.numL_lt h]
          simp
          omega
        · rw [TL.numL_step (by omega)]
          have i := ih (n / 10) (by omega) (by omega)
          cases q : TL.numL (n / 10) with
          | nil => exact absurd q (TL.numL_ne _)
          | cons x r => rw [q] at i; simpa using i
    exact this n (by omega) h
theorem numL_head45 {n : Nat} : ¬ (TL.numL n).head? = some 45 := fun z => by
  have := TL.numL_free (n := n) (s := 45) (by omega)
  cases q : TL.numL n with
  | nil => rw [q] at z; cases z
  | cons x r =>
    rw [q] at z this
    have : x = 45 := by simpa using z
    subst this
    simp at this
theorem numR_nat {n : Nat} {a b : Int} (h : n < 10 ^ 31) (h1 : a ≤ n) (h2 : ((n : Nat) : Int) ≤ b) : NumR 40 a b (TL.tl (Str.ofString (toString ((n : Nat) : Int)))) ∧ valI (TL.tl (Str.ofString (toString ((n : Nat) : Int)))) = n := by
  rw [TL.tl_num]
  have e : figs a (TL.numL n) = TL.numL n := by unfold figs; rw [if_neg fun z => numL_head45 z.1]
  have v : valI (TL.numL n) = n := by unfold valI; rw [if_neg numL_head45, TL.numL_val]
  have l := TL.numL_len (k := 31) (by decide) h
  exact ⟨⟨⟨by rw [e]; exact TL.numL_ne n, by rw [e]; omega, by rw [e]; exact dg_all.mpr (TL.numL_digits n), by rw [e]; exact fun z => ⟨numL_lead z, rfl⟩⟩, by rw [v]; exact h1, by rw [v]; exact h2⟩, v⟩
theorem numR_int {i : Int} {a b : Int} (ha : a < 0) (hi1 : -(10 ^ 30) ≤ i) (hi2 : i ≤ 10 ^ 30) (h1 : a ≤ i) (h2 : i ≤ b) : NumR 40 a b (TL.tl (Str.ofString (toString i))) ∧ valI (TL.tl (Str.ofString (toString i))) = i := by
  by_cases h : 0 ≤ i
  · obtain ⟨n, rfl⟩ : ∃ n : Nat, i = n := ⟨i.toNat, by omega⟩
    exact numR_nat (by omega) h1 h2
  · obtain ⟨n, rfl⟩ : ∃ n : Nat, i = -((n : Nat) : Int) := ⟨(-i).toNat, by omega⟩
    have hn : n < 10 ^ 31 := by omega
    rw [tl_neg (by omega)]
    have e : figs a (45 :: TL.numL n) = TL.numL n := by unfold figs; rw [if_pos ⟨rfl, ha⟩]; rfl
    have v : valI (45 :: TL.numL n) = -((n : Nat) : Int) := by unfold valI; rw [if_pos (show (45 :: TL.numL n).head? = some 45 from rfl), List.tail_cons, TL.numL_val]
    have l := TL.numL_len (k := 31) (by decide) hn
    have no : ¬ (TL.numL n).head? = some 48 := by
      by_cases h0 : n < 10
      · rw [TL.numL_lt h0]
        simp
        omega
      · intro z
        have := numL_lead z
        rw [TL.numL_step (by omega), List.length_append] at this
        have ne := TL.numL_ne (n / 10)
        cases q : TL.numL (n / 10) with
        | nil => exact ne q
        | cons x r => rw [q] at this; simp at this
    exact ⟨⟨⟨by rw [e]; exact TL.numL_ne n, by rw [e]; omega, by rw [e]; exact dg_all.mpr (TL.numL_digits n), by rw [e]; exact fun z => absurd z no⟩, by rw [v]; exact h1, by rw [v]; exact h2⟩, v⟩
end Law
/-! Tn2: number_of, for any word. -/
namespace Pv
open PySem PySem.Spec PyProof.Rows L2
theorem W.forStr {Γ : Gam} {S : Sto} {P : RS → Prop} {gt : GF} {t : SF} {i : Nat} {w : Str} (h : Γ[i]? = some (some (.str w))) (q : rsP (forL (sTurn gt t) ((TL.tl w).map fun c => PV.str ⟨#[c]⟩) Γ S) P) : rsP (sFor (iAny (eV i)) gt t Γ S) P := by
  have e : eV i Γ S = .ok (.str w) S := by unfold eV; rw [h]
  rw [sFor_eq, iAny_eq, e, anyK_str, forK_L]
  exact q
end Pv
namespace Law
open PySem PySem.Spec PyProof.Rows L2 Pv
theorem figures_all : ("0123456789" : Str).cps.toList = List.range' 48 10 := by decide +kernel
theorem in_figs {c : Nat} {S : Sto} : ninF (.str ⟨#[c]⟩) (.str "0123456789") S = some (.bl (!dgB c), S) := by
  show some (PV.bl (!(decide (c ∈ ("0123456789" : Str).cps.toList))), S) = _
  have : decide (c ∈ ("0123456789" : Str).cps.toList) = dgB c := by
    unfold dgB
    refine decide_eq_decide.mpr ?_
    rw [figures_all, List.mem_range'_1]; omega
  rw [this]
theorem tl_len (w : Str) : (TL.tl w).length = w.length := (TL.len_tl w).symm
theorem cut1 (z : Str) : TL.tl (cutS z none (some 1)) = (TL.tl z).take 1 := by
  show ((TL.tl z).drop 0).take (min 1 z.length - 0) = _
  rw [List.drop_zero, Nat.sub_zero]
  by_cases h : z.length = 0
  · have : TL.tl z = [] := List.eq_nil_of_length_eq_zero (by rw [tl_len]; exact h)
    rw [this]; simp
  · rw [Nat.min_eq_left (by omega)]
theorem cutT (z : Str) : TL.tl (cutS z (some 1) none) = (TL.tl z).tail := by
  show ((TL.tl z).drop (min 1 z.length)).take (z.length - min 1 z.length) = _
  by_cases h : z.length = 0
  · have : TL.tl z = [] := List.eq_nil_of_length_eq_zero (by rw [tl_len]; exact h)
    rw [this]; simp
  · rw [Nat.min_eq_left (by omega), List.take_of_length_le (by rw [List.length_drop, tl_len]; omega), List.drop_one]
theorem str_eq {a b : Str} : a = b ↔ TL.tl a = TL.tl b := ⟨fun h => by rw [h], TL.ext_tl⟩
theorem cut_minus (w : Str) : (cutS w none (some 1) = "-") ↔ (TL.tl w).head? = some 45 := by
  rw [str_eq, cut1]
  have e : TL.tl ("-" : Str) = [45] := rfl
  rw [e]
  cases TL.tl w with
  | nil => simp
  | cons x r => simp
/-- what number_of says -/
def optI (L : Nat) (a b : Int) (w : Str) : PV := if NumR L a b (TL.tl w) then .int (valI (TL.tl w)) else .non
theorem slN {w : Str} {lo hi : Option Int} {S : Sto} (h : w.length ≤ 100000) : slF false (.str w) lo hi S = some (.str (cutS w lo hi), S) := if_pos (by rw [sizeLine_eq]; omega)
theorem lenN {w : Str} {S : Sto} (h : w.length ≤ 100000) : lenF [.str w] S = some (.int (w.length : Nat), S) := if_pos (by rw [sizeLine_eq]; omega)
theorem tail_of {w d : Str} {a b : Int} (hd : TL.tl d = figs a (TL.tl w)) (hw : w.length ≤ 100000) {x y : Option PV} : rsP (r5_number_of [some (.str w), some (.int a), some (.int b), some (.str d), x, y] []) fun r => ∃ u S, r = .rt u S ∧ resP S u = .ok (optI 40 a b w) := by
  have dl : d.length = (figs a (TL.tl w)).length := by rw [← hd, tl_len]
  have dw : d.length ≤ w.length := by
    rw [dl, ← tl_len w]
    unfold figs
    split
    · rw [List.length_tail]; omega
    · exact Nat.le_refl _
  have non : ¬ FormN 40 a (TL.tl w) → optI 40 a b w = .non := fun h => if_neg fun z => h z.f
  have ln := fun S => lenN (S := S) (w := d) (by omega)
  unfold r5_number_of
  generalize hR4 : r4_number_of = R4
  walk_at "w"
  refine Pv.W.kD (fun e => ?_) fun e => ?_
  · walk_at "w"
    refine ⟨_, _, rfl, ?_⟩
    rw [non fun f => f.ne (by rw [← hd, e]; rfl)]
    rfl
  walk_at "w"
  refine ⟨_, _, ln _, ?_⟩
  walk_at "w"
  refine Pv.W.kD (fun e => ?_) fun e2 => ?_
  · walk_at "w"
    refine ⟨_, _, rfl, ?_⟩
    rw [non fun f => by have := f.len; omega]
    rfl
  walk_at "w"
  subst hR4
  unfold r4_number_of
  generalize hR3 : r3_number_of = R3
  have ne : figs a (TL.tl w) ≠ [] := fun z => e (by rw [str_eq, hd, z]; rfl)
  have ln1 : lenF [.str d] [] = some (.int (d.length : Nat), []) := ln []
  refine Pv.W.seq ?_
  refine Pv.W.forStr (i := 3) (w := d) rfl ?_
  refine Pv.W.find (fun c => PV.str ⟨#[c]⟩) (fun Γ => ∃ z, Γ = [some (.str w), some (.int a), some (.int b), some (.str d), z, y]) (fun c => !dgB c) ⟨x, rfl⟩ ?_ ?_
  · rintro c hc Γ ⟨z, rfl⟩
    refine Pv.W.turn (okR.of rfl ?_)
    unfold l0_number_of
    refine Pv.W.ite (Pv.W.bE (Pv.W.op (Pv.W.var rfl (Pv.W.con ⟨_, _, in_figs, _, rfl, fun hb => ?_, fun hb => ?_⟩))))
    · refine Pv.W.ret (Pv.W.con ?_)
      show (if (!dgB c) = true then _ else _)
      rw [if_pos hb]
      refine ⟨trivial, fun hf => ⟨_, _, rfl, ?_⟩⟩
      rw [non fun f => by
        have := List.all_eq_true.mp f.dg c (by rw [← hd]; exact hc)
        rw [this] at hb; cases hb]
      rfl
    · refine Pv.W.next ?_
      show (if (!dgB c) = true then _ else _)
      rw [if_neg (by rw [hb]; decide)]
      exact ⟨_, rfl, _, rfl⟩
  · rintro hf Γ ⟨z, rfl⟩
    have dg : (figs a (TL.tl w)).all dgB = true := by
      rw [← hd, List.all_eq_true]
      intro c hc
      have := List.find?_eq_none.mp hf c hc
      simpa using this
    refine Pv.W.go ?_
    subst hR3
    unfold r3_number_of
    generalize hR2 : r2_number_of = R2
    obtain ⟨c, r, er⟩ : ∃ c r, TL.tl d = c :: r := by
      cases q : TL.tl d with
      | nil => rw [hd] at q; exact absurd q ne
      | cons c r => exact ⟨c, r, rfl⟩
    have i0 : ∀ S, ixF (.str d) (.int 0) S = some (.str ⟨#[c]⟩, S) := fun S => by
      have e1 : L2.atI d.cps.toList 0 = some c := by
        show L2.atI (TL.tl d) 0 = _
        rw [er]; exact atI_0
      unfold ixF ixB
      simp only
      rw [if_pos (by rw [sizeLine_eq]; omega), e1]
      rfl
    walk_at "w"
    refine ⟨_, _, i0 _, ?_⟩
    walk_at "w"
    have c0 : ((⟨#[c]⟩ : Str) = "0") ↔ (figs a (TL.tl w)).head? = some 48 := by
      rw [str_eq, ← hd, er]
      have : TL.tl ("0" : Str) = [48] := rfl
      rw [this]
      show [c] = [48] ↔ _
      simp
    have dw1 : d = w ↔ figs a (TL.tl w) = TL.tl w := by rw [str_eq, hd]
    have flen : (TL.tl w).length ≤ (figs a (TL.tl w)).length + 1 := by
      unfold figs
      split
      · rw [List.length_tail]; omega
      · omega
    rw [tl_len] at flen
    have fin : ((figs a (TL.tl w)).head? = some 48 → (figs a (TL.tl w)).length ≤ 1 ∧ figs a (TL.tl w) = TL.tl w) → rsP (R2 [some (.str w), some (.int a), some (.int b), some (.str d), z, y] []) fun r => ∃ u S, r = .rt u S ∧ resP S u = .ok (optI 40 a b w) := fun ld => by
      have fm : FormN 40 a (TL.tl w) := ⟨ne, by omega, dg, ld⟩
      have hi := fm.int (by have := fm.len; omega)
      have i2 : ∀ S, int2F [.str w] S = some (.int (valI (TL.tl w)), S) := fun S => by
        unfold int2F
        simp only
        rw [if_pos (by have := fm.len; omega), hi]
        rfl
      have dec : optI 40 a b w = if a ≤ valI (TL.tl w) ∧ valI (TL.tl w) ≤ b then .int (valI (TL.tl w)) else .non := by
        unfold optI
        by_cases h : a ≤ valI (TL.tl w) ∧ valI (TL.tl w) ≤ b
        · rw [if_pos h, if_pos ⟨fm, h.1, h.2⟩]
        · rw [if_neg h, if_neg fun z => h ⟨z.lo, z.hi⟩]
      rw [dec]
      subst hR2
      walk_at "w"
      refine ⟨_, _, i2 _, ?_⟩
      walk_at "w"
      refine Pv.W.kD (fun h1 => ?_) fun h1 => ?_
      · walk_at "w"
        by_cases h2 : valI (TL.tl w) ≤ b
        · rw [decide_eq_true h2, if_pos ⟨h1, h2⟩]
          walk_at "w"
          exact ⟨_, _, rfl, rfl⟩
        · rw [decide_eq_false h2, if_neg fun z => h2 z.2]
          walk_at "w"
          exact ⟨_, _, rfl, rfl⟩
      · rw [if_neg fun z => h1 z.1]
        walk_at "w"
        exact ⟨_, _, rfl, rfl⟩
    have bad : ¬ ((figs a (TL.tl w)).head? = some 48 → (figs a (TL.tl w)).length ≤ 1 ∧ figs a (TL.tl w) = TL.tl w) → rsP (sRet (eC PV.non) [some (.str w), some (.int a), some (.int b), some (.str d), z, y] []) (thenS R2 fun r => ∃ u S, r = .rt u S ∧ resP S u = .ok (optI 40 a b w)) := fun h => by
      rw [non fun f => h f.lead]
      walk_at "w"
      exact ⟨_, _, rfl, rfl⟩
    refine Pv.W.kD (fun q => ?_) fun q => ?_
    · have q := c0.mp q
      refine Pv.W.or (Pv.W.bE (Pv.W.cmpI (f := fun i j => decide (i > j)) (Pv.W.call (Pv.W.cons (Pv.W.var rfl (Pv.W.nil ⟨_, _, ln _, Pv.W.con ⟨_, _, rfl, rfl, _, rfl, ⟨fun q1 => ?_, fun q1 => ?_⟩⟩⟩))))))
      · exact ⟨fun _ => bad fun f => by have := (f q).1; have := of_decide_eq_true q1; omega, fun h => by cases h⟩
      · walk_at "w"
        refine Pv.W.kND (fun q2 => bad fun f => q2 (dw1.mpr (f q).2)) fun q2 => ?_
        walk_at "w"
        exact fin fun _ => ⟨by have := of_decide_eq_false q1; omega, dw1.mp q2⟩
    · walk_at "w"
      exact fin fun h => absurd (c0.mpr h) q
theorem number_of_ok {w : Str} {a b : Int} (hw : w.length ≤ 100000) : f_number_of [.str w, .int a, .int b] = .ok (optI 40 a b w) := by
  refine Pv.W.rdP rfl ?_
  show rsP (body_number_of [some (.str w), some (.int a), some (.int b), none, none, none] []) _
  have s1 := fun S => slN (S := S) (lo := none) (hi := some 1) hw
  have s2 := fun S => slN (S := S) (lo := some 1) (hi := none) hw
  unfold body_number_of
  have k0 := fun d hd => tail_of (w := w) (d := d) (a := a) (b := b) hd hw (x := none) (y := none)
  generalize hR : r5_number_of = R5 at k0 ⊢
  have same : figs a (TL.tl w) = TL.tl w → rsP (R5 [some (.str w), some (.int a), some (.int b), some (.str w), none, none] []) fun r => ∃ u S, r = .rt u S ∧ resP S u = .ok (optI 40 a b w) := fun h => k0 w h.symm
  walk_at "w"
  refine ⟨_, _, s1 _, ?_⟩
  walk_at "w"
  refine Pv.W.kD (fun q => ?_) fun q => ?_
  · walk_at "w"
    refine Pv.W.kD (fun q1 => ?_) fun q1 => ?_
    · walk_at "w"
      refine ⟨_, _, s2 _, ?_⟩
      walk_at "w"
      exact k0 _ (by rw [cutT]; unfold figs; rw [if_pos ⟨(cut_minus w).mp q, q1⟩])
    · walk_at "w"
      exact same (by unfold figs; rw [if_neg fun z => q1 z.2])
  · walk_at "w"
    exact same (by unfold figs; rw [if_neg fun z => q ((cut_minus w).mpr z.1)])
end Law
/-! Lz: tools for loops over enumerate; adding to a list of the store. -/
namespace Pv
open PySem PySem.Spec PyProof.Rows L2
theorem W.asgX {f : List PV → RP} {as : AF} {g : GF} {Γ : Gam} {S : Sto} {P : RS → Prop} {cc : Str} {fs : List (Str × PV)} (h : okR (as Γ S) fun vs S1 => ∃ qs, vs.mapM (lendV S1) = some qs ∧ f qs = .ex cc fs ∧ rsP (.ex cc fs Γ S1) P) : rsP (sAsg (eCallP f as) g Γ S) P := by
  obtain ⟨vs, S1, e, qs, e2, e3, q⟩ := h.eq
  have ec : eCallP f as Γ S = .ex cc fs S1 := by
    unfold eCallP
    rw [e]
    show (match vs.mapM (lendV S1) with
      | some qs => match f qs with
        | .ok v => R.ok v S1
        | .ex c fs => .ex c fs S1
        | .bad => .bad
      | none => .bad) = _
    rw [e2]
    simp only [e3]
  have es : sAsg (eCallP f as) g Γ S = .ex cc fs Γ S1 := by
    unfold sAsg
    rw [ec]
    rfl
  rw [es]
  exact q
theorem enum_ps {a b : Nat} {t : SF} {P : RS → Prop} {ps : List PV} {Γ : Gam} {S : Sto} (J : Nat → Gam → Sto → Prop)
    (step : ∀ (k : Nat) (v : PV) Γ S, ps[k]? = some v → J k Γ S → rsP (t ((Γ.set a (some (.int (k : Nat)))).set b (some v)) S) fun q => Trn q (J (k + 1)) P)
    (h0 : ∀ Γ S, J ps.length Γ S → rsP (.nx Γ S) P) (h : J 0 Γ S) : rsP (forL (sTurn (gU [a, b]) t) (enumF 0 ps) Γ S) P := by
  rw [enumF_range]
  refine Pv.W.turns _ (fun d r Γ S => d ++ r = List.range ps.length ∧ J d.length Γ S) ?_ ?_ ⟨rfl, h⟩
  · rintro d k r Γ S ⟨e, j⟩
    have hk : k = d.length := by
      have := congrArg (fun l => l[d.length]?) e
      simp at this
      rw [List.getElem?_range (by have := congrArg List.length e; simp at this; omega)] at this
      exact Option.some.inj this
    subst hk
    have hl : d.length < ps.length := by have := congrArg List.length e; simp at this; omega
    have hv : ps.getD d.length .non = ps[d.length] := by simp [List.getD, hl]
    rw [hv]
    refine ⟨_, _, rfl, ?_⟩
    refine rsP.mono (step d.length _ Γ S (List.getElem?_eq_getElem hl) j) fun q hq => ?_
    have e2 : (d ++ [d.length]) ++ r = List.range ps.length := by rw [← e]; simp
    cases q <;> first | exact ⟨e2, by rw [List.length_append]; exact hq⟩ | exact hq
  · rintro d Γ S ⟨e, j⟩
    rw [List.append_nil] at e
    have : d.length = ps.length := by rw [e, List.length_range]
    rw [this] at j
    exact h0 Γ S j
end Pv
/-! Tn3: words of any text; item_of, instruction_of. -/
namespace Pv
open PySem PySem.Spec PyProof.Rows L2
theorem okR.val {α : Type} {r : R α} {x : α} {S : Sto} (h : okR r fun v S' => v = x ∧ S' = S) : r = .ok x S := by
  obtain ⟨v, S1, e, rfl, rfl⟩ := h.eq
  exact e
/-- how a def ends that answers r -/
def outP (r : RP) : RS → Prop
  | .rt u S => resP S u = r
  | .ex c fs _ _ => cleans (fs.map (·.2)) = true ∧ r = .ex c fs
  | _ => False
theorem W.rdR {np n : Nat} {body : SF} {args : List PV} {r : RP} (hl : args.length = np) (h : rsP (body (args.map some ++ List.replicate (n - args.length) none) []) (outP r)) : runP np n body args = r := by
  unfold runP
  rw [if_pos hl]
  unfold rsP at h
  cases e : body (args.map some ++ List.replicate (n - args.length) none) [] with
  | rt u S => rw [e] at h; exact h
  | ex c fs Γ S =>
    rw [e] at h
    obtain ⟨h1, rfl⟩ := h
    show (if cleans (fs.map (·.2)) = true then RP.ex c fs else .bad) = _
    rw [if_pos h1]
  | _ => rw [e] at h; exact h.elim
theorem W.raise2 {cc f h : Str} {as : AF} {Γ : Gam} {S : Sto} {P : RS → Prop} (q : okR (as Γ S) fun vs S1 => ∃ v w, vs = [v, w] ∧ rsP (.ex cc [(h, w), (f, v)] Γ S1) P) : rsP (sRaise2 cc f h as Γ S) P := by
  unfold sRaise2
  refine W.st (q.mono fun vs S1 ⟨v, w, e, k⟩ => ?_)
  subst e
  exact k
end Pv
namespace Law
open PySem PySem.Spec PyProof.Rows L2 Pv
theorem letter_in {c : Nat} {S : Sto} : ninF (.str ⟨#[c]⟩) (.str c_LETTERS) S = some (.bl (!decide (97 ≤ c ∧ c ≤ 122)), S) := by
  show some (PV.bl (!(decide (c ∈ c_LETTERS.cps.toList))), S) = _
  have : decide (c ∈ c_LETTERS.cps.toList) = decide (97 ≤ c ∧ c ≤ 122) := by
    refine decide_eq_decide.mpr ?_
    rw [letters_all, List.mem_range'_1]
    omega
  rw [this]
theorem is_word_any {w : Str} (hw : w.length ≤ 100000) : f_is_word [.str w] = .ok (.bl (decide (WdOk w))) := by
  by_cases h : WdOk w
  · rw [is_word_ok h, decide_eq_true h]
  rw [decide_eq_false h]
  refine Pv.W.rdR rfl ?_
  show rsP (body_is_word [some (.str w), none] []) _
  have hl : w.length = w.cps.toList.length := (Array.length_toList (xs := w.cps)).symm
  have ln := fun S => lenN (S := S) hw
  unfold body_is_word
  generalize hR : r2_is_word = R2
  have no : rsP (sRet (eC (PV.bl false)) [some (PV.str w), none] []) (thenS R2 (outP (RP.ok (PV.bl false)))) := by
    walk_at "w"
    rfl
  have b1 : (eChain leF leF (eC (PV.int 1)) (eCall lenF (aCons (eV 0) aNil)) (eC (PV.int 8)) : EF) [some (PV.str w), none] [] = .ok (.bl (decide (1 ≤ w.length ∧ w.length ≤ 8))) [] := by
    refine okR.val ?_
    walk_at "s"
    walk_at "w"
    refine ⟨_, _, ln _, ?_⟩
    walk_at "w"
    refine Pv.W.kD (fun q => ?_) fun q => ?_
    · walk_at "w"
      refine ⟨?_, rfl⟩
      congr 1
      refine decide_eq_decide.mpr ?_
      omega
    · refine ⟨?_, rfl⟩
      congr 1
      exact (decide_eq_false (by omega)).symm
  refine Pv.W.seq (Pv.W.ite (Pv.W.or (Pv.W.not (okR.of (v := true) (S := []) rfl ⟨fun h => (by cases h), fun _ => Pv.W.not (Pv.W.bE (okR.of b1 ⟨_, rfl, ?_⟩))⟩))))
  by_cases hl2 : 1 ≤ w.length ∧ w.length ≤ 8
  · rw [decide_eq_true hl2]
    refine ⟨fun z => (by cases z), fun _ => ?_⟩
    have hb : ∃ c ∈ TL.tl w, ¬ (97 ≤ c ∧ c ≤ 122) := by
      refine Classical.byContradiction fun z => h ⟨by omega, by omega, fun c hc => ?_⟩
      refine Classical.byContradiction fun z2 => z ⟨c, hc, z2⟩
    walk_at "w"
    subst hR
    unfold r2_is_word
    generalize hR : r1_is_word = R1
    refine Pv.W.seq ?_
    refine Pv.W.forStr (i := 0) (w := w) rfl ?_
    refine Pv.W.find (fun c => PV.str ⟨#[c]⟩) (fun Γ => ∃ z, Γ = [some (.str w), z]) (fun c => !decide (97 ≤ c ∧ c ≤ 122)) ⟨none, rfl⟩ ?_ ?_
    · rintro c hc Γ ⟨z, rfl⟩
      refine Pv.W.turn (okR.of rfl ?_)
      unfold l0_is_word
      refine Pv.W.ite (Pv.W.bE (Pv.W.op (Pv.W.var rfl (Pv.W.con ⟨_, _, letter_in, _, rfl, fun hb => ?_, fun hb => ?_⟩))))
      · refine Pv.W.ret (Pv.W.con ?_)
        show (if (!decide (97 ≤ c ∧ c ≤ 122)) = true then _ else _)
        rw [if_pos hb]
        exact ⟨trivial, fun hf => rfl⟩
      · refine Pv.W.next ?_
        show (if (!decide (97 ≤ c ∧ c ≤ 122)) = true then _ else _)
        rw [if_neg (by rw [hb]; decide)]
        exact ⟨_, rfl, _, rfl⟩
    · rintro hf Γ ⟨z, rfl⟩
      obtain ⟨c, hc, hn⟩ := hb
      have := List.find?_eq_none.mp hf c hc
      simp only [Bool.not_eq_true', decide_eq_false_iff_not, Classical.not_not] at this
      exact absurd this hn
  · rw [decide_eq_false hl2]
    exact ⟨fun _ => no, fun z => (by cases z)⟩
/-- the second item of an instruction -/
def itemP (word text : Str) : PV := if word = "const" then optI 40 (-c_GREATEST) c_GREATEST text else if word ∈ c_JUMPS then optI 40 0 c_GREATEST text else if WdOk text then .str text else .non
theorem item_of_ok {word text : Str} (hw : text.length ≤ 100000) : f_item_of [.str word, .str text] = .ok (itemP word text) := by
  refine Pv.W.rdR rfl ?_
  show rsP (body_item_of [some (.str word), some (.str text)] []) _
  have n1 := fun a b => number_of_ok (a := a) (b := b) hw
  have w1 := is_word_any hw
  have cl : ∀ {L a b}, clean (optI L a b text) = true := fun {L a b} => by unfold optI; split <;> rfl
  have rs : ∀ {L a b S}, resP S (optI L a b text) = .ok (optI L a b text) := fun {L a b S} => by unfold optI; split <;> rfl
  unfold body_item_of itemP
  walk_at "w"
  refine Pv.W.kD (fun q => ?_) fun q => ?_
  · rw [if_pos q]
    walk_at "w"
    exact ⟨_, _, rfl, n1 _ _, rs⟩
  rw [if_neg q]
  walk_at "w"
  refine Pv.W.kD (fun q => ?_) fun q => ?_
  · rw [if_pos q]
    walk_at "w"
    exact ⟨_, _, rfl, n1 _ _, rs⟩
  rw [if_neg q]
  walk_at "w"
  refine ⟨_, _, rfl, w1, _, rfl, Pv.W.kD (fun q => ?_) fun q => ?_⟩
  · rw [if_pos q]
    walk_at "w"
    rfl
  · rw [if_neg q]
    walk_at "w"
    rfl
end Law
/-! Tn4: instruction_of, for any words. -/
namespace Law
open PySem PySem.Spec PyProof.Rows L2 Pv
def wdA (ws : List Str) (k : Nat) : Str := ws.getD k ""
def insP (ws : List Str) : Nat × PV × PV :=
  if ¬ NumR 40 0 c_LINES (TL.tl (wdA ws 0)) then (1, .non, .non) else
  if wdA ws 1 ∈ c_PLAIN then (if 2 < ws.length then (3, .non, .non) else (0, .int (valI (TL.tl (wdA ws 0))), .con .own .tup [.str (wdA ws 1)])) else
  if ¬ wdA ws 1 = "const" ∧ ¬ wdA ws 1 ∈ c_JUMPS ∧ ¬ wdA ws 1 ∈ c_NAMED then (2, .non, .non) else
  if ws.length ≤ 2 ∨ isNP (itemP (wdA ws 1) (wdA ws 2)) = true then (3, .non, .non) else
  if 3 < ws.length then (4, .non, .non) else (0, .int (valI (TL.tl (wdA ws 0))), .con .own .tup [.str (wdA ws 1), itemP (wdA ws 1) (wdA ws 2)])
def badT (row : Int) (k : Nat) : RP := .ex "BadText" [("word", .int (k : Nat)), ("row", .int row)]
def insR (row : Int) : Nat × PV × PV → RP
  | (0, l, i) => .ok (.con .own .tup [l, i])
  | (k + 1, _, _) => badT row (k + 1)
theorem wd_at {ws : List Str} {k : Nat} (h : k < ws.length) : L2.atI (ws.map PV.str) (k : Nat) = some (.str (wdA ws k)) := by
  unfold L2.atI ixN
  rw [if_pos (by omega), if_pos (by rw [List.length_map]; omega)]
  show (ws.map PV.str)[((k : Nat) : Int).toNat]? = _
  rw [Int.toNat_natCast, List.getElem?_map, List.getElem?_eq_getElem h]
  unfold wdA
  rw [List.getD_eq_getElem?_getD, List.getElem?_eq_getElem h]
  rfl
theorem wd_mem {ws : List Str} {k : Nat} (h : k < ws.length) : wdA ws k ∈ ws := by
  unfold wdA
  rw [List.getD_eq_getElem?_getD, List.getElem?_eq_getElem h]
  exact List.getElem_mem h
theorem wd_out {ws : List Str} {k : Nat} (h : ws.length ≤ k) : wdA ws k = "" := by
  unfold wdA
  rw [List.getD_eq_getElem?_getD, List.getElem?_eq_none h]
  rfl
theorem optI_cl {L : Nat} {a b : Int} {w : Str} : clean (optI L a b w) = true := by unfold optI; split <;> rfl
theorem optI_np {L : Nat} {a b : Int} {w : Str} : isNP (optI L a b w) = !decide (NumR L a b (TL.tl w)) := by
  unfold optI
  by_cases h : NumR L a b (TL.tl w)
  · rw [if_pos h, decide_eq_true h]; rfl
  · rw [if_neg h, decide_eq_false h]; rfl
theorem itemP_cl {w t : Str} : clean (itemP w t) = true := by
  unfold itemP
  split
  · exact optI_cl
  split
  · exact optI_cl
  split <;> rfl
theorem resP_bad {row : Int} {k : Nat} {Γ : Gam} {S : Sto} : outP (badT row k) (.ex "BadText" [("word", .int (k : Nat)), ("row", .int row)] Γ S) := ⟨rfl, rfl⟩
theorem instruction_of_ok {ws : List Str} {m : Md} {row : Int} (h1 : 1 ≤ ws.length) (hw : ∀ w ∈ ws, w.length ≤ 100000) : f_instruction_of [.con m .lst (ws.map PV.str), .int row] = insR row (insP ws) := by
  refine Pv.W.rdR rfl ?_
  show rsP (body_instruction_of [some (.con m .lst (ws.map PV.str)), some (.int row), none, none, none] []) _
  have a0 : ∀ S, ixF (.con m .lst (ws.map PV.str)) (.int 0) S = some (.str (wdA ws 0), S) := fun S => ixK (Or.inl rfl) (wd_at (k := 0) (by omega))
  have a1 : 1 < ws.length → ∀ S, ixF (.con m .lst (ws.map PV.str)) (.int 1) S = some (.str (wdA ws 1), S) := fun h S => ixK (Or.inl rfl) (wd_at (k := 1) h)
  have a2 : 2 < ws.length → ∀ S, ixF (.con m .lst (ws.map PV.str)) (.int 2) S = some (.str (wdA ws 2), S) := fun h S => ixK (Or.inl rfl) (wd_at (k := 2) h)
  have n0 := number_of_ok (w := wdA ws 0) (a := 0) (b := c_LINES) (hw _ (wd_mem (by omega)))
  have ll : (ws.map PV.str).length = ws.length := List.length_map _
  generalize hl : ws.map PV.str = vs at a0 a1 a2 ll ⊢
  unfold body_instruction_of
  generalize hR8 : r8_instruction_of = R8
  walk_at "w"
  refine ⟨_, _, a0 _, ?_⟩
  walk_at "w"
  refine ⟨_, _, rfl, n0, ?_⟩
  walk_at "w"
  rw [optI_np]
  by_cases c0 : ¬ NumR 40 0 c_LINES (TL.tl (wdA ws 0))
  · rw [decide_eq_false c0]
    walk_at "s"
    refine Pv.W.raise2 ?_
    walk_at "w"
    refine ⟨_, _, rfl, ?_⟩
    walk_at "w"
    unfold insP
    rw [if_pos c0]
    exact resP_bad
  have c0 := Classical.not_not.mp c0
  rw [decide_eq_true c0]
  have e0 : optI 40 0 c_LINES (wdA ws 0) = .int (valI (TL.tl (wdA ws 0))) := if_pos c0
  rw [e0]
  walk_at "w"
  subst hR8
  unfold r8_instruction_of
  generalize hR7 : r7_instruction_of = R7
  have main : rsP (R7 [some (.con m .lst vs), some (.int row), some (.int (valI (TL.tl (wdA ws 0)))), some (.str (wdA ws 1)), none] []) (outP (insR row (insP ws))) := by
    subst hR7
    unfold r7_instruction_of
    generalize hR6 : r6_instruction_of = R6
    unfold insP
    rw [if_neg (fun z => z c0)]
    walk_at "w"
    refine Pv.W.kD (fun q => ?_) fun q => ?_
    · rw [if_pos q]
      unfold i1_instruction_of
      walk_at "w"
      refine Pv.W.kD (fun q2 => ?_) fun q2 => ?_
      · rw [if_pos (by omega)]
        refine Pv.W.raise2 ?_
        walk_at "w"
        refine ⟨_, _, rfl, ?_⟩
        walk_at "w"
        exact resP_bad
      · rw [if_neg (by omega)]
        walk_at "w"
        rfl
    rw [if_neg q]
    walk_at "w"
    subst hR6
    unfold r6_instruction_of
    generalize hR5 : r5_instruction_of = R5
    have step : ¬ (¬ wdA ws 1 = "const" ∧ ¬ wdA ws 1 ∈ c_JUMPS ∧ ¬ wdA ws 1 ∈ c_NAMED) → rsP (R5 [some (.con m .lst vs), some (.int row), some (.int (valI (TL.tl (wdA ws 0)))), some (.str (wdA ws 1)), none] []) (outP (insR row (if ws.length ≤ 2 ∨ isNP (itemP (wdA ws 1) (wdA ws 2)) = true then (3, .non, .non) else
  if 3 < ws.length then (4, .non, .non) else (0, .int (valI (TL.tl (wdA ws 0))), .con .own .tup [.str (wdA ws 1), itemP (wdA ws 1) (wdA ws 2)])))) := fun _ => by
      subst hR5
      unfold r5_instruction_of
      generalize hR4 : r4_instruction_of = R4
      walk_at "w"
      refine Pv.W.kD (fun q2 => ?_) fun q2 => ?_
      · walk_at "w"
        refine ⟨_, _, a2 (by omega) _, ?_⟩
        walk_at "w"
        have it := item_of_ok (word := wdA ws 1) (text := wdA ws 2) (hw _ (wd_mem (by omega)))
        refine ⟨_, _, rfl, it, ?_⟩
        have ic := itemP_cl (w := wdA ws 1) (t := wdA ws 2)
        generalize hI : itemP (wdA ws 1) (wdA ws 2) = I at ic ⊢
        walk_at "w"
        subst hR4
        unfold r4_instruction_of
        generalize hR3 : r3_instruction_of = R3
        walk_at "w"
        cases hn : isNP I with
        | true =>
          rw [if_pos (Or.inr rfl)]
          walk_at "s"
          refine Pv.W.raise2 ?_
          walk_at "w"
          refine ⟨_, _, rfl, ?_⟩
          walk_at "w"
          exact resP_bad
        | false =>
          rw [if_neg (fun h => by rcases h with h | h; (omega); (cases h))]
          walk_at "w"
          subst hR3
          unfold r3_instruction_of
          walk_at "w"
          refine Pv.W.kD (fun q3 => ?_) fun q3 => ?_
          · rw [if_pos (by omega)]
            refine Pv.W.raise2 ?_
            walk_at "w"
            refine ⟨_, _, rfl, ?_⟩
            walk_at "w"
            exact resP_bad
          · rw [if_neg (by omega)]
            walk_at "w"
            exact resP_clean (by simp [clean, cleans, ic])
      · rw [if_pos (Or.inl (by omega))]
        walk_at "w"
        subst hR4
        unfold r4_instruction_of
        walk_at "w"
        refine Pv.W.raise2 ?_
        walk_at "w"
        refine ⟨_, _, rfl, ?_⟩
        walk_at "w"
        exact resP_bad
    by_cases c3 : ¬ wdA ws 1 = "const" ∧ ¬ wdA ws 1 ∈ c_JUMPS ∧ ¬ wdA ws 1 ∈ c_NAMED
    · rw [if_pos c3]
      walk_at "w"
      refine Pv.W.kND (fun z1 => ?_) fun z1 => absurd z1 c3.1
      walk_at "w"
      refine Pv.W.kND (fun z1 => ?_) fun z1 => absurd z1 c3.2.1
      walk_at "w"
      refine Pv.W.kND (fun z1 => ?_) fun z1 => absurd z1 c3.2.2
      refine Pv.W.raise2 ?_
      walk_at "w"
      refine ⟨_, _, rfl, ?_⟩
      walk_at "w"
      exact resP_bad
    have step := step c3
    rw [if_neg c3]
    generalize (if ws.length ≤ 2 ∨ isNP (itemP (wdA ws 1) (wdA ws 2)) = true then (3, PV.non, PV.non) else
  if 3 < ws.length then (4, .non, .non) else (0, .int (valI (TL.tl (wdA ws 0))), .con .own .tup [.str (wdA ws 1), itemP (wdA ws 1) (wdA ws 2)])) = Z at step ⊢
    walk_at "w"
    refine Pv.W.kND (fun z1 => ?_) fun z1 => ?_
    · walk_at "w"
      refine Pv.W.kND (fun z2 => ?_) fun z2 => ?_
      · walk_at "w"
        refine Pv.W.kND (fun z3 => absurd ⟨z1, z2, z3⟩ c3) fun z3 => ?_
        walk_at "w"
        exact step
      · walk_at "w"
        exact step
    · walk_at "w"
      exact step
  walk_at "w"
  refine Pv.W.kD (fun q => ?_) fun q => ?_
  · walk_at "w"
    refine ⟨_, _, a1 (by omega) _, ?_⟩
    walk_at "w"
    exact main
  · walk_at "w"
    have e1 := wd_out (ws := ws) (k := 1) (by omega)
    rw [e1] at main
    exact main
end Law
/-! Tn5: handler_of, for any words. -/
namespace Law
open PySem PySem.Spec PyProof.Rows L2 Pv
structure NumB (ws : List Str) (k : Nat) : Prop where
  l : k < ws.length
  n : NumR 40 0 c_GREATEST (TL.tl (wdA ws k))
instance {ws : List Str} {k : Nat} : Decidable (NumB ws k) := decidable_of_iff (k < ws.length ∧ NumR 40 0 c_GREATEST (TL.tl (wdA ws k))) ⟨fun ⟨a, b⟩ => ⟨a, b⟩, fun ⟨a, b⟩ => ⟨a, b⟩⟩
def numV (ws : List Str) (k : Nat) : PV := .int (valI (TL.tl (wdA ws k)))
def kndP (w : Str) : PV := if w = "any" then .non else .str w
def hanP (ws : List Str) : Nat × PV := match [1, 2, 3, 4].find? (fun k => !decide (NumB ws k)) with
  | some k => (k + 1, .non)
  | none => if ws.length < 6 ∨ ¬ WdOk (wdA ws 5) then (6, .non) else if 6 < ws.length then (7, .non) else (0, .con .own .tup [numV ws 1, numV ws 2, numV ws 3, numV ws 4, kndP (wdA ws 5)])
def hanR (row : Int) : Nat × PV → RP
  | (0, h) => .ok h
  | (k + 1, _) => badT row (k + 1)
theorem handler_of_ok {ws : List Str} {m : Md} {row : Int} (hw : ∀ w ∈ ws, w.length ≤ 100000) : f_handler_of [.con m .lst (ws.map PV.str), .int row] = hanR row (hanP ws) := by
  refine Pv.W.rdR rfl ?_
  show rsP (body_handler_of [some (.con m .lst (ws.map PV.str)), some (.int row), none, none, none, none] []) _
  have ak : ∀ k : Nat, k < ws.length → ∀ S, ixF (.con m .lst (ws.map PV.str)) (.int (k : Nat)) S = some (.str (wdA ws k), S) := fun k hk S => ixK (Or.inl rfl) (wd_at hk)
  have a5 : 5 < ws.length → ∀ S, ixF (.con m .lst (ws.map PV.str)) (.int 5) S = some (.str (wdA ws 5), S) := ak 5
  have ll : (ws.map PV.str).length = ws.length := List.length_map _
  generalize hl : ws.map PV.str = vs at ak a5 ll ⊢
  unfold body_handler_of
  generalize hR6 : r6_handler_of = R6
  generalize hF : sFor (iR2 (aCons (eC (.int 1)) (aCons (eC (.int 5)) aNil))) (gN 3) l2_handler_of = F
  walk_at "w"
  subst hF
  rw [sFor_eq, iR2_ok (i := 1) (j := 5) rfl ⟨by omega, by omega, by omega, by omega⟩, forK_L]
  have ei : intsF 1 ((5 : Int) - 1).toNat = [1, 2, 3, 4].map fun k : Nat => PV.int (k : Nat) := by rfl
  rw [ei]
  refine Pv.W.turns (fun k : Nat => PV.int (k : Nat)) (fun d r Γ S => d ++ r = [1, 2, 3, 4] ∧ d.find? (fun k => !decide (NumB ws k)) = none ∧ (∃ y3 y4 y5, Γ = [some (.con m .lst vs), some (.int row), some (.ref 0), y3, y4, y5]) ∧ S = [some (.lst, d.map (numV ws))]) ?_ ?_ ⟨rfl, rfl, ⟨_, _, _, rfl⟩, rfl⟩
  · rintro d k r Γ S ⟨e, hd, ⟨y3, y4, y5, rfl⟩, rfl⟩
    refine ⟨_, _, rfl, ?_⟩
    have hk : k ≤ 4 := by
      have : k ∈ [1, 2, 3, 4] := by rw [← e]; simp
      simp at this
      omega
    have hd4 : d.length < 1000000 := by have := congrArg List.length e; simp at this; omega
    have l4 : (d.map (numV ws)).length < 1000000 := by rw [List.length_map]; exact hd4
    simp only [List.set_cons_succ, List.set_cons_zero]
    unfold l2_handler_of
    generalize hR1 : r1_handler_of = R1
    have bad : ¬ NumB ws k → rsP (R1 [some (.con m .lst vs), some (.int row), some (.ref 0), some (.int (k : Nat)), y4, some .non] [some (.lst, d.map (numV ws))]) fun q => Trn q (fun Γ S => d ++ [k] ++ r = [1, 2, 3, 4] ∧ (d ++ [k]).find? (fun k => !decide (NumB ws k)) = none ∧ (∃ y3 y4 y5, Γ = [some (.con m .lst vs), some (.int row), some (.ref 0), y3, y4, y5]) ∧ S = [some (.lst, (d ++ [k]).map (numV ws))]) (thenS R6 (outP (hanR row (hanP ws)))) := fun hn => by
      subst hR1
      unfold r1_handler_of
      generalize hR0 : r0_handler_of = R0
      walk_at "w"
      refine Pv.W.raise2 ?_
      walk_at "w"
      refine ⟨_, _, rfl, ?_⟩
      walk_at "w"
      have : [1, 2, 3, 4].find? (fun k => !decide (NumB ws k)) = some k := by
        rw [← e, List.find?_append, hd]
        simp [hn]
      have e3 : hanP ws = (k + 1, .non) := by unfold hanP; rw [this]
      rw [e3]
      exact ⟨rfl, rfl⟩
    generalize hQ : (fun q : RS => Trn q (fun Γ S => d ++ [k] ++ r = [1, 2, 3, 4] ∧ (d ++ [k]).find? (fun k => !decide (NumB ws k)) = none ∧ (∃ y3 y4 y5, Γ = [some (.con m .lst vs), some (.int row), some (.ref 0), y3, y4, y5]) ∧ S = [some (.lst, (d ++ [k]).map (numV ws))]) (thenS R6 (outP (hanR row (hanP ws))))) = Q at bad ⊢
    walk_at "w"
    refine Pv.W.kD (fun q2 => ?_) fun q2 => ?_
    · have hkl : k < ws.length := by omega
      have n0 := number_of_ok (w := wdA ws k) (a := 0) (b := c_GREATEST) (hw _ (wd_mem hkl))
      walk_at "w"
      refine ⟨_, _, ak k hkl _, ?_⟩
      walk_at "w"
      refine ⟨_, _, rfl, n0, ?_⟩
      by_cases hb : NumR 40 0 c_GREATEST (TL.tl (wdA ws k))
      · have e0 : optI 40 0 c_GREATEST (wdA ws k) = numV ws k := if_pos hb
        rw [e0]
        unfold numV
        walk_at "w"
        subst hR1
        unfold r1_handler_of
        generalize hR0 : r0_handler_of = R0
        walk_at "w"
        subst hR0
        unfold r0_handler_of
        walk_at "w"
        rw [← hQ]
        refine ⟨by rw [List.append_assoc]; exact e, ?_, ⟨_, _, _, rfl⟩, ?_⟩
        · rw [List.find?_append, hd]
          have : NumB ws k := ⟨hkl, hb⟩
          simp [this]
        · rw [List.map_append]; rfl
      · have e0 : optI 40 0 c_GREATEST (wdA ws k) = .non := if_neg hb
        rw [e0]
        walk_at "w"
        exact bad fun z => hb z.n
    · walk_at "w"
      exact bad fun z => q2 (by have := z.l; omega)
  · rintro d Γ S ⟨e, hd, ⟨y3, y4, y5, rfl⟩, rfl⟩
    rw [List.append_nil] at e
    subst e
    refine Pv.W.go ?_
    have eh : hanP ws = if ws.length < 6 ∨ ¬ WdOk (wdA ws 5) then (6, .non) else if 6 < ws.length then (7, .non) else (0, .con .own .tup [numV ws 1, numV ws 2, numV ws 3, numV ws 4, kndP (wdA ws 5)]) := by
      unfold hanP
      rw [hd]
    rw [eh]
    subst hR6
    unfold r6_handler_of
    generalize hR5 : r5_handler_of = R5
    have bad : rsP (sRaise2 "BadText" "row" "word" (aCons (eV 1) (aCons (eC (.int 6)) aNil)) [some (.con m .lst vs), some (.int row), some (.ref 0), y3, y4, y5] [some (.lst, [1, 2, 3, 4].map (numV ws))]) (thenS R5 (outP (hanR row (6, .non)))) := by
      refine Pv.W.raise2 ?_
      walk_at "w"
      refine ⟨_, _, rfl, ?_⟩
      walk_at "w"
      exact ⟨rfl, rfl⟩
    walk_at "w"
    refine ⟨fun q => ?_, fun q => ?_⟩
    · rw [if_pos (Or.inl (by have := of_decide_eq_true q; omega))]
      walk_at "w"
      exact bad
    have q := of_decide_eq_false q
    have w1 := is_word_any (hw _ (wd_mem (ws := ws) (k := 5) (by omega)))
    walk_at "w"
    refine ⟨_, _, a5 (by omega) _, ?_⟩
    walk_at "w"
    refine ⟨_, _, rfl, w1, _, rfl, Pv.W.kND (fun q2 => ?_) fun q2 => ?_⟩
    · rw [if_pos (Or.inr q2)]
      exact bad
    rw [if_neg (fun z => by rcases z with z | z; (omega); (exact z q2))]
    walk_at "w"
    subst hR5
    unfold r5_handler_of
    generalize hR4 : r4_handler_of = R4
    walk_at "w"
    refine Pv.W.kD (fun q3 => ?_) fun q3 => ?_
    · rw [if_pos (by omega)]
      refine Pv.W.raise2 ?_
      walk_at "w"
      refine ⟨_, _, rfl, ?_⟩
      walk_at "w"
      exact ⟨rfl, rfl⟩
    rw [if_neg (by omega)]
    walk_at "w"
    subst hR4
    unfold r4_handler_of
    generalize hR3 : r3_handler_of = R3
    walk_at "w"
    refine ⟨_, _, a5 (by omega) _, ?_⟩
    have main : ∀ z, clean z = true → rsP (R3 [some (.con m .lst vs), some (.int row), some (.ref 0), y3, some z, y5] [some (.lst, [1, 2, 3, 4].map (numV ws))]) (outP (hanR row (0, .con .own .tup [numV ws 1, numV ws 2, numV ws 3, numV ws 4, z]))) := fun z ck => by
      subst hR3
      unfold r3_handler_of
      walk_at "w"
      exact resP_clean (by simp [clean, cleans, ck, numV])
    walk_at "w"
    refine Pv.W.kD (fun q3 => ?_) fun q3 => ?_
    · walk_at "w"
      rw [show kndP (wdA ws 5) = .non from if_pos q3]
      exact main _ rfl
    · walk_at "w"
      rw [show kndP (wdA ws 5) = .str (wdA ws 5) from if_neg q3]
      exact main _ rfl
end Law
/-! Tn6: rows split into words; what is wrong in a text; read. -/
namespace Pv
open PySem PySem.Spec PyProof.Rows L2
section
variable {Γ : Gam} {S S1 : Sto} {a o : EF} {as : AF} {c : Str} {fs : List (Str × PV)} {v p : PV} {vs qs : List PV}
theorem aCons_ex (h : a Γ S = .ex c fs S1) : aCons a as Γ S = .ex c fs S1 := by unfold aCons; rw [h]; rfl
theorem eCallP_ex {f : List PV → RP} (h : as Γ S = .ok vs S1) (h2 : vs.mapM (lendV S1) = some qs) (h3 : f qs = .ex c fs) : eCallP f as Γ S = .ex c fs S1 := by
  unfold eCallP
  rw [h]
  show (match vs.mapM (lendV S1) with
    | some qs => match f qs with
      | .ok v => R.ok v S1
      | .ex c fs => .ex c fs S1
      | .bad => .bad
    | none => .bad) = _
  rw [h2]
  simp only [h3]
theorem eM_ex {T : String} {f : MF} (h : o Γ S = .ok p S) (ht : tyP T S p = true) (h2 : as Γ S = .ex c fs S1) : eM T f o as Γ S = .ex c fs S1 := by
  unfold eM
  rw [h]
  show (if tyP T S p = true then (as Γ S).bind fun ps S2 => R.of (f p ps S2) else .bad) = _
  rw [if_pos ht, h2]
  rfl
theorem W.exprE {P : RS → Prop} (h : a Γ S = .ex c fs S1) (q : rsP (.ex c fs Γ S1) P) : rsP (sExpr a Γ S) P := by
  unfold sExpr
  rw [h]
  exact q
theorem W.retE {P : RS → Prop} (h : a Γ S = .ex c fs S1) (q : rsP (.ex c fs Γ S1) P) : rsP (sRet a Γ S) P := by
  unfold sRet
  rw [h]
  exact q
theorem make_ex {f : List PV → RP} {m : Nat} {dps : List PV} (h : as Γ S = .ok vs S1) (hl : vs.length = m) (h2 : vs.mapM (lendV S1) = some qs) (h3 : f (qs ++ dps) = .ex c fs) : eMakeP f m dps as Γ S = .ex c fs S1 := by
  unfold eMakeP
  rw [h]
  show (if vs.length = m then (match vs.mapM (lendV S1) with
    | some qs => match f (qs ++ dps) with
      | .ok v => R.ok v S1
      | .ex c fs => .ex c fs S1
      | .bad => .bad
    | none => .bad) else .bad) = _
  rw [if_pos hl, h2]
  simp only [h3]
end
end Pv
namespace Law
open PySem PySem.Spec PyProof.Rows L2 Pv
def wsOf (r : Str) : List Str := Txt.split r " "
def isH (r : Str) : Bool := decide (wdA (wsOf r) 0 = "handler")
/-- the first wrong word of a row -/
def wrongP (r : Str) (b : Bool) : Nat := if isH r = true then (hanP (wsOf r)).1 else if b = true then 1 else (insP (wsOf r)).1
def dueP : Nat → Bool → List Str → Option (Nat × Nat)
  | _, _, [] => none
  | k, b, r :: rs => if wrongP r b = 0 then dueP (k + 1) (b || isH r) rs else some (k + 1, wrongP r b)
def codL (L : List Str) : List PV := (L.filter fun r => !isH r).map fun r => (insP (wsOf r)).2.2
def linL (L : List Str) : List PV := (L.filter fun r => !isH r).map fun r => (insP (wsOf r)).2.1
def hanL (L : List Str) : List PV := (L.filter isH).map fun r => (hanP (wsOf r)).2
theorem spl_len (s : Nat) : ∀ (l acc : List Nat), TL.spl [s] 0 acc l ≠ [] ∧ ∀ p ∈ TL.spl [s] 0 acc l, p.length ≤ acc.length + l.length
  | [], acc => by
    rw [TL.spl_nil]
    refine ⟨by simp, fun p hp => ?_⟩
    rw [List.mem_singleton.mp hp]
    omega
  | c :: l, acc => by
    by_cases h : TL.pre [s] (c :: l) = true
    · rw [TL.spl_hit h]
      have ih := spl_len s l []
      refine ⟨by simp, fun p hp => ?_⟩
      rcases List.mem_cons.mp hp with rfl | hp
      · omega
      · have := ih.2 p hp
        simp only [List.length_cons, List.length_nil] at this ⊢
        omega
    · rw [TL.spl_miss (by simpa using h)]
      have ih := spl_len s l (acc ++ [c])
      refine ⟨ih.1, fun p hp => ?_⟩
      have := ih.2 p hp
      simp only [List.length_append, List.length_cons, List.length_nil] at this ⊢
      omega
theorem split_len {x y : Str} {s : Nat} (ey : TL.tl y = [s]) (hs : s < 256) : Txt.split x y ≠ [] ∧ (Txt.split x y).length ≤ x.length + 1 ∧ ∀ p ∈ Txt.split x y, p.length ≤ x.length := by
  have hk : y.cps.all (· < 256) = true := by
    rw [← Array.all_toList]
    show (TL.tl y).all _ = true
    rw [ey]
    simp [hs]
  have e := TL.split_spl x y (by rw [ey]; simp) (TL.kind_ok hk)
  rw [ey] at e
  have g := spl_len s (TL.tl x) []
  have n : ∀ (l acc : List Nat), (TL.spl [s] 0 acc l).length ≤ l.length + 1 := by
    intro l
    induction l with
    | nil => intro acc; rw [TL.spl_nil]; simp
    | cons c l ih =>
      intro acc
      by_cases h : TL.pre [s] (c :: l) = true
      · rw [TL.spl_hit h]
        have := ih []
        simp only [List.length_cons] at this ⊢
        exact Nat.succ_le_succ this
      · rw [TL.spl_miss (by simpa using h)]
        have := ih (acc ++ [c])
        simp only [List.length_cons]
        omega
  refine ⟨fun z => ?_, ?_, fun p hp => ?_⟩
  · rw [z] at e
    exact g.1 e.symm
  · have e2 := congrArg List.length e
    rw [List.length_map] at e2
    rw [e2, ← tl_len x]
    exact n _ _
  · have := g.2 (TL.tl p) (by rw [← e]; exact List.mem_map_of_mem hp)
    rw [tl_len, tl_len, List.length_nil] at this
    omega
theorem ws_len (r : Str) : 1 ≤ (wsOf r).length ∧ ∀ p ∈ wsOf r, p.length ≤ r.length := by
  have := split_len (x := r) (y := " ") (s := 32) rfl (by omega)
  exact ⟨List.length_pos_iff.mpr this.1, this.2.2⟩
theorem splitW {r : Str} {S : Sto} (h : r.length ≤ 100000) : splitF false (.str r) [.str " "] S = some (.con .own .lst ((wsOf r).map PV.str), S) := by
  show (if ((" " : Str).length == 0) = false ∧ r.length + 2 ≤ sizeLine then some (newP false .lst ((Txt.split r " ").map PV.str) S) else none) = _
  rw [if_pos ⟨by decide, by rw [sizeLine_eq]; omega⟩]
  rfl
theorem insP_cl (ws : List Str) : clean (insP ws).2.1 = true ∧ clean (insP ws).2.2 = true := by
  unfold insP
  split
  · exact ⟨rfl, rfl⟩
  split
  · split <;> exact ⟨rfl, rfl⟩
  split
  · exact ⟨rfl, rfl⟩
  split
  · exact ⟨rfl, rfl⟩
  split
  · exact ⟨rfl, rfl⟩
  · exact ⟨rfl, by simp [clean, cleans, itemP_cl]⟩
theorem hanP_cl (ws : List Str) : clean (hanP ws).2 = true := by
  unfold hanP
  split
  · rfl
  split
  · rfl
  split
  · rfl
  · have ck : clean (kndP (wdA ws 5)) = true := by unfold kndP; split <;> rfl
    simp [clean, cleans, ck, numV]
theorem cls_map {α : Type} {f : α → PV} {l : List α} (h : ∀ x ∈ l, clean (f x) = true) : cleans (l.map f) = true := by
  induction l with
  | nil => rfl
  | cons x l ih =>
    rw [List.map_cons]
    unfold cleans
    rw [h x List.mem_cons_self, ih fun y hy => h y (List.mem_cons_of_mem _ hy)]
    rfl
theorem dueP_app : ∀ (a : List Str) (k : Nat) (b : Bool) (c : List Str), dueP k b a = none → dueP k b (a ++ c) = dueP (k + a.length) (b || a.any isH) c
  | [], k, b, c, _ => by simp
  | r :: a, k, b, c, h => by
    unfold dueP at h
    split at h
    · rename_i h0
      rw [List.cons_append]
      show (if wrongP r b = 0 then dueP (k + 1) (b || isH r) (a ++ c) else _) = _
      rw [if_pos h0, dueP_app a (k + 1) (b || isH r) c h, List.length_cons, List.any_cons, Bool.or_assoc, show k + 1 + a.length = k + (a.length + 1) by omega]
    · cases h
end Law
/-! Tn7: read. -/
namespace Law
open PySem PySem.Spec PyProof.Rows L2 Pv
abbrev gR (T : Str) (y4 y5 y6 y7 y8 : Option PV) : Gam := [some (.str T), some (.ref 0), some (.ref 1), some (.ref 2), y4, y5, y6, y7, y8]
abbrev sR (L : List Str) : Sto := [some (.lst, codL L), some (.lst, linL L), some (.lst, hanL L)]
def readR (L : List Str) (r0 : RP) : RP := match dueP 0 false L with
  | some p => badT ((p.1 : Nat) : Int) p.2
  | none => r0
theorem hanL_emp (L : List Str) : (hanL L).isEmpty = !L.any isH := by
  unfold hanL
  induction L with
  | nil => rfl
  | cons r L ih =>
    by_cases h : isH r = true
    · rw [List.filter_cons_of_pos h, List.any_cons, h]; rfl
    · rw [List.filter_cons_of_neg h, ih, List.any_cons]; simp [h]
theorem dueP_cons {k : Nat} {b : Bool} {r : Str} {rs : List Str} : dueP k b (r :: rs) = if wrongP r b = 0 then dueP (k + 1) (b || isH r) rs else some (k + 1, wrongP r b) := rfl
theorem due_bad {L : List Str} {k : Nat} {r : Str} {r0 : RP} (hk : L[k]? = some r) (hd : dueP 0 false (L.take k) = none) (hw : wrongP r ((L.take k).any isH) ≠ 0) : readR L r0 = badT ((k : Int) + 1) (wrongP r ((L.take k).any isH)) := by
  have hl : k < L.length := (List.getElem?_eq_some_iff.mp hk).1
  have e : L = L.take k ++ (r :: L.drop (k + 1)) := by
    have := (List.getElem?_eq_some_iff.mp hk).2
    rw [← this, ← List.drop_eq_getElem_cons hl, List.take_append_drop]
  have z := dueP_app (L.take k) 0 false (r :: L.drop (k + 1)) hd
  rw [← e] at z
  have lt : (L.take k).length = k := by rw [List.length_take]; omega
  rw [lt, Nat.zero_add, Bool.false_or] at z
  rw [dueP_cons, if_neg hw] at z
  unfold readR
  rw [z]
  rfl
theorem due_step {L : List Str} {k : Nat} {r : Str} (hk : L[k]? = some r) (hd : dueP 0 false (L.take k) = none) (hw : wrongP r ((L.take k).any isH) = 0) : dueP 0 false (L.take (k + 1)) = none := by
  have hl : k < L.length := (List.getElem?_eq_some_iff.mp hk).1
  have e : L.take (k + 1) = L.take k ++ [r] := by
    rw [List.take_succ, hk]; rfl
  rw [e, dueP_app _ _ _ _ hd, Bool.false_or]
  unfold dueP
  rw [if_pos hw]
  rfl
section
variable {T : Str} {L : List Str} {r0 : RP}
theorem read_turn (hL : L.length < 1000) (hw : ∀ r ∈ L, r.length ≤ 100000) {R2 : SF} {k : Nat} {r : Str} (hk : L[k]? = some r) (hd : dueP 0 false (L.take k) = none) {y4 y5 y6 y7 y8 : Option PV} :
    rsP (l1_read (((gR T y4 y5 y6 y7 y8).set 4 (some (.int (k : Nat)))).set 5 (some (.str r))) (sR (L.take k))) fun q => Trn q (fun Γ S => dueP 0 false (L.take (k + 1)) = none ∧ (∃ y4 y5 y6 y7 y8, Γ = gR T y4 y5 y6 y7 y8) ∧ S = sR (L.take (k + 1))) (thenS R2 (outP (readR L r0))) := by
  have hl : k < L.length := (List.getElem?_eq_some_iff.mp hk).1
  have hr : r.length ≤ 100000 := hw r (List.mem_of_getElem? hk)
  have e1 : L.take (k + 1) = L.take k ++ [r] := by rw [List.take_succ, hk]; rfl
  have wl := ws_len r
  have hws : ∀ w ∈ wsOf r, w.length ≤ 100000 := fun w hw => Nat.le_trans (wl.2 w hw) hr
  have sp := fun S => splitW (S := S) hr
  have tk : (L.take k).length ≤ k := by rw [List.length_take]; omega
  have lc : (codL (L.take k)).length < 1000000 := by unfold codL; rw [List.length_map]; have := List.length_filter_le (fun r => !isH r) (L.take k); omega
  have ll : (linL (L.take k)).length < 1000000 := by unfold linL; rw [List.length_map]; have := List.length_filter_le (fun r => !isH r) (L.take k); omega
  have lh : (hanL (L.take k)).length < 1000000 := by unfold hanL; rw [List.length_map]; have := List.length_filter_le isH (L.take k); omega
  have bad := fun h => due_bad (r0 := r0) hk hd h
  have next := fun h => due_step hk hd h
  have a0 : ∀ S, ixF (.con .own .lst ((wsOf r).map PV.str)) (.int 0) S = some (.str (wdA (wsOf r) 0), S) := fun S => ixK (Or.inl rfl) (wd_at (k := 0) (by omega))
  have emp := hanL_emp (L.take k)
  have io := instruction_of_ok (m := .own) (row := (k : Int) + 1) wl.1 hws
  have ho := handler_of_ok (m := .own) (row := (k : Int) + 1) hws
  have cws : clean (.con .own .lst ((wsOf r).map PV.str)) = true := by
    have : cleans ((wsOf r).map PV.str) = true := cls_map fun _ _ => rfl
    simp [clean, this]
  have lnd : ∀ S, [PV.con .own .lst ((wsOf r).map PV.str), .int ((k : Int) + 1)].mapM (lendV S) = some [.con .own .lst ((wsOf r).map PV.str), .int ((k : Int) + 1)] := fun S => lends_ok (by simp only [List.mem_cons, List.not_mem_nil, or_false, forall_eq_or_imp, forall_eq]; exact ⟨cws, rfl⟩)
  have ic := insP_cl (wsOf r)
  have hc := hanP_cl (wsOf r)
  have ecod : ∀ i, isH r = false → (insP (wsOf r)).2.2 = i → codL (L.take (k + 1)) = codL (L.take k) ++ [i] := fun i h1 h2 => by
    unfold codL; rw [e1, List.filter_append, List.map_append, ← h2]; simp [h1]
  have elin : ∀ i, isH r = false → (insP (wsOf r)).2.1 = i → linL (L.take (k + 1)) = linL (L.take k) ++ [i] := fun i h1 h2 => by
    unfold linL; rw [e1, List.filter_append, List.map_append, ← h2]; simp [h1]
  have ehan : isH r = false → hanL (L.take (k + 1)) = hanL (L.take k) := fun h1 => by
    unfold hanL; rw [e1, List.filter_append, List.map_append]; simp [h1]
  have ecod' : isH r = true → codL (L.take (k + 1)) = codL (L.take k) := fun h1 => by
    unfold codL; rw [e1, List.filter_append, List.map_append]; simp [h1]
  have elin' : isH r = true → linL (L.take (k + 1)) = linL (L.take k) := fun h1 => by
    unfold linL; rw [e1, List.filter_append, List.map_append]; simp [h1]
  have ehan' : ∀ i, isH r = true → (hanP (wsOf r)).2 = i → hanL (L.take (k + 1)) = hanL (L.take k) ++ [i] := fun i h1 h2 => by
    unfold hanL; rw [e1, List.filter_append, List.map_append, ← h2]; simp [h1]
  generalize hQ : (fun q : RS => Trn q (fun Γ S => dueP 0 false (L.take (k + 1)) = none ∧ (∃ y4 y5 y6 y7 y8, Γ = gR T y4 y5 y6 y7 y8) ∧ S = sR (L.take (k + 1))) (thenS R2 (outP (readR L r0)))) = Q
  have bex : ∀ (n : Nat) Γ S, readR L r0 = badT ((k : Int) + 1) n → rsP (.ex "BadText" [("word", .int (n : Nat)), ("row", .int ((k : Int) + 1))] Γ S) Q := fun n Γ S h => by
    rw [← hQ]
    show outP (readR L r0) (.ex "BadText" [("word", .int (n : Nat)), ("row", .int ((k : Int) + 1))] Γ S)
    rw [h]
    exact ⟨rfl, rfl⟩
  have done : ∀ Γ S, dueP 0 false (L.take (k + 1)) = none → (∃ y4 y5 y6 y7 y8, Γ = gR T y4 y5 y6 y7 y8) → S = sR (L.take (k + 1)) → rsP (.nx Γ S) Q := fun Γ S h1 h2 h3 => by
    rw [← hQ]
    exact ⟨h1, h2, h3⟩
  clear hQ
  unfold l1_read
  generalize hE : e0_read = E0
  simp only [List.set_cons_succ, List.set_cons_zero]
  refine Pv.W.seq (Pv.W.set (Pv.W.meth (Pv.W.var rfl ⟨rfl, Pv.W.cons (Pv.W.con (Pv.W.nil ⟨_, _, sp _, Pv.W.go ?_⟩))⟩)))
  simp only [List.set_cons_succ, List.set_cons_zero]
  refine Pv.W.ite (Pv.W.bE (Pv.W.op (Pv.W.op (Pv.W.var rfl (Pv.W.con ⟨_, _, a0 _, Pv.W.con ⟨_, _, eqF_str, _, rfl, Pv.W.kD (fun q => ?_) fun q => ?_⟩⟩)))))
  · have hh : isH r = true := decide_eq_true q
    have wr : wrongP r ((L.take k).any isH) = (hanP (wsOf r)).1 := by unfold wrongP; rw [if_pos hh]
    rw [wr] at bad next
    have argE : ∀ Γ S, Γ[6]? = some (some (.con .own .lst ((wsOf r).map PV.str))) → Γ[4]? = some (some (.int (k : Nat))) → aCons (eV 6) (aCons (eOp (addF false) (eV 4) (eC (.int 1))) aNil) Γ S = .ok [.con .own .lst ((wsOf r).map PV.str), .int ((k : Int) + 1)] S := fun Γ S g6 g4 => okR.val (Pv.W.cons (Pv.W.var g6 (Pv.W.cons (Pv.W.op (Pv.W.var g4 (Pv.W.con ⟨_, _, addF_int, Pv.W.nil ⟨rfl, rfl⟩⟩))))))
    cases hp : hanP (wsOf r) with
    | mk n h =>
      rw [hp] at bad next ho hc
      cases n with
      | succ n =>
        refine Pv.W.exprE (eM_ex (p := .ref 2) rfl rfl (aCons_ex (eCallP_ex (argE _ _ rfl rfl) (lnd _) ho))) ?_
        exact bex _ _ _ (bad (by simp))
      | zero =>
        have ho : f_handler_of [.con .own .lst ((wsOf r).map PV.str), .int ((k : Int) + 1)] = .ok h := ho
        refine Pv.W.expr (Pv.W.meth (Pv.W.var rfl ⟨rfl, Pv.W.cons (Pv.W.clP (okR.of (argE _ _ rfl rfl) ⟨_, _, lnd _, ho, Pv.W.nil ⟨_, _, appF (by rfl) (by omega), ?_⟩⟩))⟩))
        refine done _ _ (next rfl) ⟨_, _, _, _, _, rfl⟩ ?_
        unfold sR
        rw [ecod' hh, elin' hh, ehan' h hh (by rw [hp])]
        rfl
  · have hh : isH r = false := decide_eq_false q
    refine Pv.W.ite (Pv.W.bT (Pv.W.var rfl ⟨!(hanL (L.take k)).isEmpty, rfl, ?_⟩))
    rw [emp, Bool.not_not]
    cases hb : (L.take k).any isH with
    | true =>
      rw [hb] at bad
      refine ⟨fun _ => ?_, fun z => (by cases z)⟩
      refine Pv.W.raise2 (Pv.W.cons (Pv.W.op (Pv.W.var rfl (Pv.W.con ⟨_, _, addF_int, Pv.W.cons (Pv.W.con (Pv.W.nil ⟨_, _, rfl, ?_⟩))⟩))))
      have wr : wrongP r true = 1 := by unfold wrongP; rw [if_neg (by rw [hh]; decide), if_pos rfl]
      rw [wr] at bad
      exact bex 1 _ _ (bad (by decide))
    | false =>
      rw [hb] at bad next
      refine ⟨fun z => (by cases z), fun _ => ?_⟩
      have wr : wrongP r false = (insP (wsOf r)).1 := by unfold wrongP; rw [if_neg (by rw [hh]; decide), if_neg (by decide)]
      rw [wr] at bad next
      subst hE
      unfold e0_read
      have argE : ∀ Γ S, Γ[6]? = some (some (.con .own .lst ((wsOf r).map PV.str))) → Γ[4]? = some (some (.int (k : Nat))) → aCons (eV 6) (aCons (eOp (addF false) (eV 4) (eC (.int 1))) aNil) Γ S = .ok [.con .own .lst ((wsOf r).map PV.str), .int ((k : Int) + 1)] S := fun Γ S g6 g4 => okR.val (Pv.W.cons (Pv.W.var g6 (Pv.W.cons (Pv.W.op (Pv.W.var g4 (Pv.W.con ⟨_, _, addF_int, Pv.W.nil ⟨rfl, rfl⟩⟩))))))
      cases hp : insP (wsOf r) with
      | mk n h =>
        obtain ⟨l, i⟩ := h
        rw [hp] at bad next io ic
        cases n with
        | succ n =>
          refine Pv.W.seq (Pv.W.asgX (okR.of (argE _ _ rfl rfl) ⟨_, lnd _, io, ?_⟩))
          exact bex _ _ _ (bad (by simp))
        | zero =>
          have io : f_instruction_of [.con .own .lst ((wsOf r).map PV.str), .int ((k : Int) + 1)] = .ok (.con .own .tup [l, i]) := io
          refine Pv.W.seq (Pv.W.asg (Pv.W.clP (okR.of (argE _ _ rfl rfl) ⟨_, _, lnd _, io, okR.of rfl (Pv.W.go ?_)⟩)))
          simp only [List.set_cons_succ, List.set_cons_zero]
          refine Pv.W.seq (Pv.W.expr (Pv.W.meth (Pv.W.var rfl ⟨rfl, Pv.W.cons (Pv.W.var rfl (Pv.W.nil ⟨_, _, appF (by rfl) (by omega), Pv.W.go ?_⟩))⟩)))
          refine Pv.W.expr (Pv.W.meth (Pv.W.var rfl ⟨rfl, Pv.W.cons (Pv.W.var rfl (Pv.W.nil ⟨_, _, appF (by rfl) (by omega), ?_⟩))⟩))
          refine done _ _ (next rfl) ⟨_, _, _, _, _, rfl⟩ ?_
          unfold sR
          rw [ecod i hh (by rw [hp]), elin l hh (by rw [hp]), ehan hh]
          rfl
end
end Law
/-! Tn9: read, whole. -/
namespace Law
open PySem PySem.Spec PyProof.Rows L2 Pv
theorem codL_cl (L : List Str) : cleans (codL L) = true := cls_map fun r _ => (insP_cl (wsOf r)).2
theorem linL_cl (L : List Str) : cleans (linL L) = true := cls_map fun r _ => (insP_cl (wsOf r)).1
theorem hanL_cl (L : List Str) : cleans (hanL L) = true := cls_map fun r _ => hanP_cl (wsOf r)
theorem lendT3 {a b c : List PV} (ha : cleans a = true) (hb : cleans b = true) (hc : cleans c = true) : [PV.ref 0, .ref 1, .ref 2].mapM (lendV [some (.lst, a), some (.lst, b), some (.lst, c)]) = some [.con .lent .lst a, .con .lent .lst b, .con .lent .lst c] := by
  have h1 : lendV [some (Kd.lst, a), some (.lst, b), some (.lst, c)] (.ref 0) = some (.con .lent .lst a) := by
    show (if cleans a = true then _ else _) = _
    rw [if_pos ha]
  have h2 : lendV [some (Kd.lst, a), some (.lst, b), some (.lst, c)] (.ref 1) = some (.con .lent .lst b) := by
    show (if cleans b = true then _ else _) = _
    rw [if_pos hb]
  have h3 : lendV [some (Kd.lst, a), some (.lst, b), some (.lst, c)] (.ref 2) = some (.con .lent .lst c) := by
    show (if cleans c = true then _ else _) = _
    rw [if_pos hc]
  simp only [List.mapM_cons, List.mapM_nil, h1, h2, h3]
  rfl
theorem read_ok {T : Str} {L : List Str} {r0 : RP} (hT : T.length ≤ 16000000) (hs : Txt.split T "\n" = L) (hL : L.length < 1000) (hw : ∀ r ∈ L, r.length ≤ 100000)
    (h0 : dueP 0 false L = none → i_Unit_init [.con .lent .lst (codL L), .con .lent .lst (linL L), .con .lent .lst (hanL L)] = r0 ∧ ((∃ v, r0 = .ok v ∧ clean v = true) ∨ ∃ c fs, r0 = .ex c fs ∧ cleans (fs.map (·.2)) = true)) : f_read [.str T] = readR L r0 := by
  refine Pv.W.rdR rfl ?_
  show rsP (body_read [some (.str T), none, none, none, none, none, none, none, none] []) _
  have sp : ∀ S, splitF false (.str T) [.str "\n"] S = some (.con .own .lst (L.map PV.str), S) := fun S => by
    show (if (("\n" : Str).length == 0) = false ∧ T.length + 2 ≤ sizeLine then some (newP false .lst ((Txt.split T "\n").map PV.str) S) else none) = _
    rw [if_pos ⟨by decide, by rw [sizeLine_eq]; omega⟩, hs]
    rfl
  have l0 : dueP 0 false L = none → readR L r0 = r0 := fun h => by unfold readR; rw [h]
  unfold body_read
  generalize hR2 : r2_read = R2
  refine Pv.W.seq (Pv.W.set (Pv.W.lstT (Pv.W.nil ⟨by rw [sizeLine_eq]; simp, Pv.W.go ?_⟩)))
  refine Pv.W.seq (Pv.W.set (Pv.W.lstT (Pv.W.nil ⟨by rw [sizeLine_eq]; simp, Pv.W.go ?_⟩)))
  refine Pv.W.seq (Pv.W.set (Pv.W.lstT (Pv.W.nil ⟨by rw [sizeLine_eq]; simp, Pv.W.go ?_⟩)))
  refine Pv.W.seq (Pv.W.forE2 (Pv.W.meth (Pv.W.var rfl ⟨rfl, Pv.W.cons (Pv.W.con (Pv.W.nil ⟨_, _, sp _, _, _, _, Or.inl rfl, rfl, ?_⟩))⟩)))
  refine enum_ps (fun k Γ S => dueP 0 false (L.take k) = none ∧ (∃ y4 y5 y6 y7 y8, Γ = gR T y4 y5 y6 y7 y8) ∧ S = sR (L.take k)) ?_ ?_ ⟨by rw [List.take_zero]; rfl, ⟨_, _, _, _, _, rfl⟩, rfl⟩
  · rintro k v Γ S hv ⟨hd, ⟨y4, y5, y6, y7, y8, rfl⟩, rfl⟩
    rw [List.getElem?_map] at hv
    obtain ⟨r, hr, rfl⟩ := Option.map_eq_some_iff.mp hv
    exact read_turn hL hw hr hd
  · rintro Γ S ⟨hd, ⟨y4, y5, y6, y7, y8, rfl⟩, rfl⟩
    rw [List.length_map, List.take_length] at hd
    rw [List.length_map, List.take_length, l0 hd]
    obtain ⟨h1, h2⟩ := h0 hd
    refine Pv.W.go ?_
    subst hR2
    unfold r2_read
    have ae : aCons (eV 1) (aCons (eV 2) (aCons (eV 3) aNil)) (gR T y4 y5 y6 y7 y8) (sR L) = .ok [.ref 0, .ref 1, .ref 2] (sR L) := rfl
    rcases h2 with ⟨v, rfl, hc⟩ | ⟨c, fs, rfl, hc⟩
    · refine Pv.W.ret (Pv.W.make (okR.of ae ⟨rfl, _, _, lendT3 (codL_cl L) (linL_cl L) (hanL_cl L), h1, ?_⟩))
      exact resP_clean hc
    · refine Pv.W.retE (make_ex ae rfl (lendT3 (codL_cl L) (linL_cl L) (hanL_cl L)) h1) ?_
      exact ⟨hc, rfl⟩
end Law
/-! Q1: the search in widths over places with lines, plain. -/
namespace Law
open PySem PySem.Spec PyProof.Rows L2 Pv
/-- a pair that is found, the pair that it is found from, the length of the path -/
structure QE where
  p : Nat × Nat
  q : Option (Nat × Nat)
  n : Nat
/-- the exits' places, ascending -/
def exS (n : Nat) (hds : List Hnd) (i : Nat) (r : Itr) : List Nat := (srtI (((exits n hds i r).map (·.1)).map fun n : Nat => (n : Int))).map Int.toNat
theorem exS_all (n : Nat) (hds : List Hnd) (i : Nat) (r : Itr) : srtI (((exits n hds i r).map (·.1)).map fun n : Nat => (n : Int)) = (exS n hds i r).map (fun n : Nat => (n : Int)) ∧ ∀ t, t ∈ exS n hds i r ↔ ∃ x ∈ exits n hds i r, x.1 = t := by
  obtain ⟨N, h1, h2⟩ := srtI_nat ((exits n hds i r).map (·.1))
  have e : exS n hds i r = N := by
    unfold exS
    rw [h1, List.map_map]
    have : (Int.toNat ∘ fun n : Nat => (n : Int)) = id := rfl
    rw [this, List.map_id]
  rw [e]
  exact ⟨h1, fun t => by rw [h2, List.mem_map]⟩
def nxtQ (rows : List Rw) (hds : List Hnd) (p : Nat × Nat) : List (Nat × Nat) := match rows[p.1]? with
  | some r => (exS rows.length hds p.1 r.i).map fun t => (t, laterL r p.2)
  | none => []
def addQ (e : QE) (st : List QE) (p : Nat × Nat) : List QE := if p ∈ st.map QE.p then st else st ++ [⟨p, some e.p, e.n + 1⟩]
def turnQ (rows : List Rw) (hds : List Hnd) (a : Nat) (st : List QE) : List QE := match st[a]? with
  | some e => (nxtQ rows hds e.p).foldl (addQ e) st
  | none => st
section
variable {rows : List Rw} {hds : List Hnd} {st : List QE} {e : QE} {a : Nat} {p : Nat × Nat}
structure QOk (rows : List Rw) (hds : List Hnd) (st : List QE) : Prop where
  sf : SF0 rows hds (st.map QE.p)
  hd : st[0]? = some ⟨(0, 0), none, 1⟩
  par : ∀ (j : Nat) (e : QE), st[j]? = some e → j = 0 ∨ ∃ b f, b < j ∧ st[b]? = some f ∧ e.q = some f.p ∧ e.n = f.n + 1 ∧ e.p ∈ nxtQ rows hds f.p
theorem mem_nxt : p ∈ nxtQ rows hds e.p ↔ ∃ r, rows[e.p.1]? = some r ∧ ∃ x ∈ exits rows.length hds e.p.1 r.i, p = (x.1, laterL r e.p.2) := by
  unfold nxtQ
  cases hr : rows[e.p.1]? with
  | none => simp
  | some r =>
    simp only [List.mem_map, (exS_all _ _ _ _).2, Option.some.injEq, exists_eq_left']
    constructor
    · rintro ⟨t, ⟨x, hx, rfl⟩, rfl⟩
      exact ⟨x, hx, rfl⟩
    · rintro ⟨x, hx, rfl⟩
      exact ⟨x.1, ⟨x, hx, rfl⟩, rfl⟩
theorem nxt_in (raw : Raw rows hds) (h : RcL rows hds e.p) (h2 : e.p ∈ PP rows) (hp : p ∈ nxtQ rows hds e.p) : RcL rows hds p ∧ p ∈ PP rows := by
  obtain ⟨r, hr, x, hx, rfl⟩ := mem_nxt.mp hp
  refine ⟨.step h hr hx, mem_PP.mpr ⟨raw.tgts _ r hr x hx, ?_⟩⟩
  unfold laterL
  split
  · exact (mem_PP.mp h2).2
  · exact Or.inr (List.mem_map_of_mem (List.mem_of_getElem? hr))
theorem QOk.add (raw : Raw rows hds) (s : QOk rows hds st) (ha : st[a]? = some e) (hp : p ∈ nxtQ rows hds e.p) : QOk rows hds (addQ e st p) ∧ (∃ ys, addQ e st p = st ++ ys) ∧ p ∈ (addQ e st p).map QE.p := by
  unfold addQ
  split
  · rename_i h
    exact ⟨s, ⟨[], by rw [List.append_nil]⟩, h⟩
  · rename_i h
    have me := s.sf.sub e.p (List.mem_map_of_mem (List.mem_of_getElem? ha))
    obtain ⟨h1, h2⟩ := nxt_in raw me.1 me.2 hp
    have al := (List.getElem?_eq_some_iff.mp ha).1
    refine ⟨⟨by rw [List.map_append]; exact s.sf.put h h1 h2, by rw [List.getElem?_append_left (by omega)]; exact s.hd, fun j f hj => ?_⟩, ⟨_, rfl⟩, by simp⟩
    by_cases hl : j < st.length
    · rw [List.getElem?_append_left hl] at hj
      rcases s.par j f hj with h | ⟨b, g, z1, z2, z3⟩
      · exact Or.inl h
      · exact Or.inr ⟨b, g, z1, by rw [List.getElem?_append_left (by omega)]; exact z2, z3⟩
    · rw [List.getElem?_append_right (by omega)] at hj
      have : j - st.length = 0 := by
        have := (List.getElem?_eq_some_iff.mp hj).1
        simp at this
        omega
      rw [this] at hj
      cases hj
      exact Or.inr ⟨a, e, by omega, by rw [List.getElem?_append_left al]; exact ha, rfl, rfl, hp⟩
theorem QOk.fold (raw : Raw rows hds) : ∀ (ps : List (Nat × Nat)) {st : List QE}, QOk rows hds st → st[a]? = some e → (∀ p ∈ ps, p ∈ nxtQ rows hds e.p) → QOk rows hds (ps.foldl (addQ e) st) ∧ (∃ ys, ps.foldl (addQ e) st = st ++ ys) ∧ ∀ p ∈ ps, p ∈ (ps.foldl (addQ e) st).map QE.p
  | [], st, s, ha, h => ⟨s, ⟨[], by rw [List.append_nil]; rfl⟩, by simp⟩
  | p :: ps, st, s, ha, h => by
    obtain ⟨s1, ⟨y1, e1⟩, m1⟩ := s.add raw ha (h p (by simp))
    have ha1 : (addQ e st p)[a]? = some e := by rw [e1, List.getElem?_append_left (List.getElem?_eq_some_iff.mp ha).1]; exact ha
    obtain ⟨s2, ⟨y2, e2⟩, m2⟩ := QOk.fold raw ps s1 ha1 fun q hq => h q (by simp [hq])
    rw [List.foldl_cons]
    refine ⟨s2, ⟨y1 ++ y2, by rw [e2, e1, List.append_assoc]⟩, fun q hq => ?_⟩
    rcases List.mem_cons.mp hq with rfl | hq
    · rw [e2, List.map_append]
      exact List.mem_append_left _ m1
    · exact m2 q hq
theorem QOk.turn (raw : Raw rows hds) (s : QOk rows hds st) (c : Clo rows hds (st.map QE.p) a) (ha : a < st.length) :
    QOk rows hds (turnQ rows hds a st) ∧ Clo rows hds ((turnQ rows hds a st).map QE.p) (a + 1) ∧ st.length ≤ (turnQ rows hds a st).length := by
  have h : st[a]? = some st[a] := List.getElem?_eq_getElem ha
  generalize st[a] = e at h
  unfold turnQ
  rw [h]
  obtain ⟨s2, ⟨ys, e2⟩, m2⟩ := s.fold raw (nxtQ rows hds e.p) h fun _ z => z
  have c2 := c.app (by rw [List.length_map]; omega) (ys.map QE.p)
  refine ⟨s2, fun k hk i l q r hr x hx => ?_, by show st.length ≤ ((nxtQ rows hds e.p).foldl (addQ e) st).length; rw [e2, List.length_append]; omega⟩
  by_cases z : k = a
  · have q : (((nxtQ rows hds e.p).foldl (addQ e) st).map QE.p)[k]? = some (i, l) := q
    rw [z, e2, List.map_append, List.getElem?_append_left (by rw [List.length_map]; exact ha), List.getElem?_map, h] at q
    have q : e.p = (i, l) := Option.some.inj q
    refine m2 _ (mem_nxt.mpr ?_)
    rw [q]
    exact ⟨r, hr, x, hx, rfl⟩
  · have q : (((nxtQ rows hds e.p).foldl (addQ e) st).map QE.p)[k]? = some (i, l) := q
    show _ ∈ ((nxtQ rows hds e.p).foldl (addQ e) st).map QE.p
    rw [e2, List.map_append] at q ⊢
    exact c2 k (by omega) i l q r hr x hx
end
end Law
/-! Q2: the dict of pairs that are found. -/
namespace Law
open PySem PySem.Spec PyProof.Rows L2 Pv
abbrev uT (ml mh : Md) (rows : List Rw) (hds : List Hnd) (d : PV) : PV := unitM ml mh (pvs rows) (lns rows) (hvs hds) d
def parP : Option (Nat × Nat) → PV
  | some p => prP p
  | none => .non
def dvs (st : List QE) : List PV := st.map fun e => parP e.q
end Law
/-! Tw4: write. -/
namespace Law
open PySem PySem.Spec PyProof.Rows L2 Pv
def its : Itr → List PV
  | .c n => [.str "const", .int n]
  | .ld w => [.str "load", .str w]
  | .sto w => [.str "store", .str w]
  | .op o => [.str o.name]
  | .fl w => [.str "fail", .str w]
  | .jp t => [.str "jump", .int t]
  | .ji t => [.str "jumpif", .int t]
theorem pv_its (i : Itr) : i.pv = .con .own .tup (its i) := by cases i <;> rfl
def rwW (r : Rw) : List Str := Str.ofString (toString ((r.l : Nat) : Int)) :: (its r.i).map strW
def rwT (r : Rw) : Str := Txt.join " " (rwW r)
def hdT (h : Hnd) : Str := Txt.join " " (hdW h)
/-- can be written -/
structure RwW (r : Rw) : Prop where
  l : NW r.l
  i : ∀ x ∈ its r.i, WP x
structure HdW (h : Hnd) : Prop where
  s : NW h.s
  e : NW h.e
  t : NW h.t
  d : NW h.d
  k : (kdW h.k).length ≤ 40
theorem join_len {a : Str} {k : Nat} : ∀ {ys : List Str}, (∀ y ∈ ys, y.length ≤ k) → (Txt.join a ys).length ≤ ys.length * (k + a.length)
  | [], _ => by rw [TL.len_tl, TL.join_eq, TL.tl_join]; simp [TL.joinL]
  | [x], h => by
    rw [TL.len_tl, TL.join_eq, TL.tl_join]
    have := h x List.mem_cons_self
    rw [TL.len_tl] at this
    show (TL.tl x).length ≤ 1 * (k + a.length)
    rw [Nat.one_mul]
    exact Nat.le_trans this (Nat.le_add_right _ _)
  | x :: y :: r, h => by
    have ih := join_len (a := a) (ys := y :: r) fun z hz => h z (List.mem_cons_of_mem _ hz)
    have hx := h x List.mem_cons_self
    rw [TL.len_tl, TL.join_eq, TL.tl_join] at ih ⊢
    rw [TL.len_tl] at hx
    rw [List.length_cons (as := y :: r), Nat.succ_mul]
    show (TL.tl x ++ (TL.tl a ++ TL.joinL (TL.tl a) ((y :: r).map TL.tl))).length ≤ _
    rw [List.length_append, List.length_append]
    have := TL.len_tl a
    omega
theorem its_len (i : Itr) : (its i).length ≤ 2 := by cases i <;> simp [its]
theorem rwT_len {r : Rw} (h : RwW r) : (rwT r).length ≤ 500 := by
  have h1 : (" " : Str).length = 1 := by decide
  have hl := its_len r.i
  have := join_len (a := " ") (k := 40) (ys := rwW r) fun y hy => by
    rcases List.mem_cons.mp hy with rfl | hy
    · exact h.l.2
    · obtain ⟨x, hx, rfl⟩ := List.mem_map.mp hy
      exact strW_len (h.i x hx)
  have h2 : (rwW r).length ≤ 3 := by unfold rwW; rw [List.length_cons, List.length_map]; omega
  rw [h1] at this
  unfold rwT
  omega
theorem hdT_len {h : Hnd} (w : HdW h) : (hdT h).length ≤ 500 := by
  have h1 : (" " : Str).length = 1 := by decide
  have h3 : ("handler" : Str).length = 7 := by decide
  have := join_len (a := " ") (k := 40) (ys := hdW h) fun y hy => by
    unfold hdW at hy
    simp only [List.mem_cons, List.not_mem_nil, or_false] at hy
    rcases hy with rfl | rfl | rfl | rfl | rfl | rfl
    · omega
    · exact w.s.2
    · exact w.e.2
    · exact w.t.2
    · exact w.d.2
    · exact w.k
  have h2 : (hdW h).length = 6 := rfl
  rw [h1] at this
  unfold hdT
  omega
end Law
/-! Tw5: write, its walk. -/
namespace Law
open PySem PySem.Spec PyProof.Rows L2 Pv
section
variable {rows : List Rw} {hds : List Hnd} {d : PV}
def wrT (rows : List Rw) (hds : List Hnd) : Str := Txt.join "\n" (rows.map rwT ++ hds.map hdT)
def prR (r : Rw) : PV := .con .own .tup [.int (r.l : Nat), r.i.pv]
theorem prR_zip (rows : List Rw) : pairsP (lns rows) (pvs rows) = rows.map prR := by
  unfold pairsP lns pvs
  rw [List.zip_map', List.map_map]
  rfl
theorem write_ok (hr : ∀ r ∈ rows, RwW r) (hh : ∀ h ∈ hds, HdW h) (hz : rows.length ≤ 200) (hf : hds.length ≤ 10000) : f_write [uT .own .own rows hds d] = .ok (.str (wrT rows hds)) := by
  refine Pv.W.rdP rfl ?_
  show rsP (body_write [some (uT .own .own rows hds d), none, none, none, none] []) _
  unfold body_write
  have hi : iZ2 (aCons (eFld ["Unit"] "lines" (eV 0)) (aCons (eFld ["Unit"] "code" (eV 0)) aNil)) [some (uT .own .own rows hds d), none, none, none, none] [] = .ok (stL (rows.map prR), rows.length + 1) [] := by
    have e : aCons (eFld ["Unit"] "lines" (eV 0)) (aCons (eFld ["Unit"] "code" (eV 0)) aNil) [some (uT .own .own rows hds d), none, none, none, none] [] = .ok [.con .own .tup (lns rows), .con .own .tup (pvs rows)] [] := rfl
    unfold iZ2
    rw [e]
    show R.ok (stL (pairsP (lns rows) (pvs rows)), (pairsP (lns rows) (pvs rows)).length + 1) [] = _
    rw [prR_zip, List.length_map]
  generalize hT2 : eLc false (iAny (eFld ["Unit"] "handlers" (eV 0))) (gN 4) bYes (eCallP f_handler_text (aCons (eV 4) aNil)) [4] = T2
  generalize hΓ : [some (uT .own .own rows hds d), none, none, none, none] = Γ at hi ⊢
  have g0 : Γ[0]? = some (some (uT .own .own rows hds d)) := by rw [← hΓ]; rfl
  have gl : Γ.length = 5 := by rw [← hΓ]; rfl
  have lc := lcA_eq (mu := false) (Γ := Γ) (S := []) (gt := gT [2, 3]) (tt := bYes) (te := eCallP f_row_text (aCons (eV 2) (aCons (eV 3) aNil))) (is := [2, 3]) (xs := rows) prR (fun _ => true) (fun r => PV.str (rwT r)) hi (fun i => rfl) (by omega)
    (fun r hr' => by
      have w := hr r hr'
      refine ⟨((wipeG Γ [2, 3]).set 2 (some (.int (r.l : Nat)))).set 3 (some r.i.pv), rfl, ⟨rfl, rfl⟩, fun _ => ?_⟩
      have q2 : (((wipeG Γ [2, 3]).set 2 (some (.int (r.l : Nat)))).set 3 (some r.i.pv))[2]? = some (some (.int (r.l : Nat))) := by rw [← hΓ]; rfl
      have q3 : (((wipeG Γ [2, 3]).set 2 (some (.int (r.l : Nat)))).set 3 (some r.i.pv))[3]? = some (some r.i.pv) := by rw [← hΓ]; rfl
      have ci : clean r.i.pv = true := by cases r.i <;> rfl
      have lends : [PV.int (r.l : Nat), r.i.pv].mapM (lendV []) = some [.int (r.l : Nat), r.i.pv] := lends_ok (by simp only [List.mem_cons, List.not_mem_nil, or_false, forall_eq_or_imp, forall_eq]; exact ⟨rfl, ci⟩)
      have rt := row_text_ok (l := .int (r.l : Nat)) (xs := its r.i) w.l w.i (by have := its_len r.i; omega)
      rw [← pv_its] at rt
      exact Pv.W.clP (Pv.W.cons (Pv.W.var q2 (Pv.W.cons (Pv.W.var q3 (Pv.W.nil ⟨_, _, lends, rt, rfl, rfl⟩))))))
  rw [List.filter_eq_self.mpr (by simp)] at lc
  refine Pv.W.seq (Pv.W.set (okR.of lc (Pv.W.go ?_)))
  have hn : newP false Kd.lst (rows.map fun r => PV.str (rwT r)) [] = (.con .own .lst ((rows.map rwT).map PV.str), []) := by
    rw [List.map_map]
    rfl
  rw [hn]
  generalize hΓ2 : Γ.set 1 (some (PV.con Md.own Kd.lst ((rows.map rwT).map PV.str))) = Γ2
  have g02 : Γ2[0]? = some (some (uT .own .own rows hds d)) := by rw [← hΓ2, ← hΓ]; rfl
  have g12 : Γ2[1]? = some (some (.con .own .lst ((rows.map rwT).map PV.str))) := by rw [← hΓ2, ← hΓ]; rfl
  have gl2 : Γ2.length = 5 := by rw [← hΓ2, List.length_set]; exact gl
  clear hi lc
  have n3 : (hvs hds).length = hds.length := List.length_map _
  have hi2 : iAny (eFld ["Unit"] "handlers" (eV 0)) Γ2 [] = .ok (stL (hds.map Hnd.pv), hds.length + 1) [] := by
    have : okR (eFld ["Unit"] "handlers" (eV 0) Γ2 []) fun v S => v = .con .own .tup (hvs hds) ∧ S = [] := Pv.W.get (Pv.W.var g02 ⟨.con .own .tup (hvs hds), rfl, rfl, rfl⟩)
    obtain ⟨v, S, e, rfl, rfl⟩ := this.eq
    rw [iAny_eq, e, anyK_tup, n3]
    rfl
  have lc2 := lcA_eq (mu := false) (Γ := Γ2) (S := []) (gt := gN 4) (tt := bYes) (te := eCallP f_handler_text (aCons (eV 4) aNil)) (is := [4]) (xs := hds) Hnd.pv (fun _ => true) (fun h => PV.str (hdT h)) hi2 (fun i => rfl) (by omega)
    (fun h hh' => by
      have w := hh h hh'
      have q4 : ((wipeG Γ2 [4]).set 4 (some h.pv))[4]? = some (some h.pv) := by simp [wipeG, gl2]
      have ci : clean h.pv = true := by obtain ⟨a, b, c, d, k⟩ := h; cases k <;> rfl
      have lends : [h.pv].mapM (lendV []) = some [h.pv] := lends_ok (by simp only [List.mem_cons, List.not_mem_nil, or_false, forall_eq]; exact ci)
      exact ⟨_, rfl, ⟨rfl, rfl⟩, fun _ => Pv.W.clP (Pv.W.cons (Pv.W.var q4 (Pv.W.nil ⟨_, _, lends, handler_text_ok w.s w.e w.t w.d w.k, rfl, rfl⟩)))⟩)
  rw [List.filter_eq_self.mpr (by simp), hT2] at lc2
  have e1 : ((rows.map rwT).map PV.str) ++ (hds.map fun h => PV.str (hdT h)) = (rows.map rwT ++ hds.map hdT).map PV.str := by
    rw [List.map_append, List.map_map (l := hds)]
    rfl
  have e3 : addF false (.con .own .lst ((rows.map rwT).map PV.str)) (.con .own .lst (hds.map fun h => PV.str (hdT h))) [] = some (.con .own .lst ((rows.map rwT ++ hds.map hdT).map PV.str), []) := by
    rw [addF_lst (m := false) (by decide) (by decide) (by simp; omega), e1]
    rfl
  have hj := joinF_ok (S := []) (m := .own) (a := "\n") (ys := rows.map rwT ++ hds.map hdT) (k := 500) rfl (fun y hy => by
    rcases List.mem_append.mp hy with h | h
    · obtain ⟨r, h1, rfl⟩ := List.mem_map.mp h
      exact rwT_len (hr r h1)
    · obtain ⟨x, h1, rfl⟩ := List.mem_map.mp h
      exact hdT_len (hh x h1)) (by
      have h1 : ("\n" : Str).length = 1 := by decide
      rw [h1, List.length_append, List.length_map, List.length_map]
      omega)
  exact Pv.W.ret (Pv.W.meth (Pv.W.con ⟨rfl, Pv.W.cons (Pv.W.op (Pv.W.var g12 (okR.of lc2 ⟨_, _, e3, Pv.W.nil ⟨_, _, hj, ⟨_, _, rfl, rfl⟩⟩⟩)))⟩))
end
end Law
/-! Tw6: _law_figures. -/
namespace Law
open PySem PySem.Spec PyProof.Rows L2 Pv
def sg (c : Nat) : PV := .str ⟨#[c]⟩
theorem fig_at {n : Nat} {S : Sto} (h : n < 10) : ixF (.str "0123456789") (.int (n : Nat)) S = some (sg (48 + n), S) := by
  rcases (show n = 0 ∨ n = 1 ∨ n = 2 ∨ n = 3 ∨ n = 4 ∨ n = 5 ∨ n = 6 ∨ n = 7 ∨ n = 8 ∨ n = 9 by omega) with rfl | rfl | rfl | rfl | rfl | rfl | rfl | rfl | rfl | rfl <;> rfl
theorem join_sg (cs : List Nat) : Txt.join "" (cs.map fun c => (⟨#[c]⟩ : Str)) = ⟨cs.toArray⟩ := by
  refine TL.ext_tl ?_
  rw [TL.join_eq, TL.tl_join]
  have e0 : TL.tl ("" : Str) = [] := rfl
  rw [e0]
  induction cs with
  | nil => rfl
  | cons c cs ih =>
    cases cs with
    | nil => rfl
    | cons b r =>
      show TL.tl (⟨#[c]⟩ : Str) ++ ([] ++ TL.joinL [] (((b :: r).map fun c => (⟨#[c]⟩ : Str)).map TL.tl)) = _
      rw [ih]
      rfl
theorem numS (n : Nat) : (⟨(TL.numL n).toArray⟩ : Str) = Str.ofString (toString ((n : Nat) : Int)) := by
  refine TL.ext_tl ?_
  rw [TL.tl_num]
theorem joinF_d {S : Sto} {p : PV} {a : Str} {ys : List Str} {k : Nat} (hd : deref S p = some (.lst, ys.map PV.str)) (h : ∀ y ∈ ys, y.length ≤ k) (hz : ys.length * k + ys.length * a.length ≤ 16777216) : joinF (.str a) [p] S = some (.str (Txt.join a ys), S) := by
  have := sum_le h
  unfold joinF
  simp only [hd, strsOf_map]
  rw [if_pos (by omega)]
abbrev gF (n : Int) (y1 y2 : Option PV) : Gam := [some (.int n), y1, y2]
theorem fig_nat {f : List PV → RP} {n : Nat} (h : n < 10 ^ 31) : rsP (r2_law_figures f (gF n none none) []) fun r => ∃ u S, r = .rt u S ∧ resP S u = .ok (.str (Str.ofString (toString ((n : Nat) : Int)))) := by
  unfold r2_law_figures
  generalize hR : r1_law_figures f = R1
  refine Pv.W.seq (Pv.W.set (okR.of (v := .ref 0) (S := [some (.lst, [])]) rfl (Pv.W.go ?_)))
  refine Pv.W.seq (Pv.W.set (Pv.W.var rfl (Pv.W.go ?_)))
  refine Pv.W.seq ?_
  have hlen := TL.numL_len (k := 31) (by decide) h
  refine Pv.W.whl (fun m Γ S => ∃ (k : Nat) (acc : List Nat), m = (TL.numL k).length ∧ Γ = gF n (some (.ref 0)) (some (.int (k : Nat))) ∧ S = [some (Kd.lst, acc.map sg)] ∧ acc.length ≤ 31 ∧ TL.numL n = TL.numL k ++ acc.reverse) ?_ ⟨n, [], rfl, rfl, rfl, by simp, by simp⟩ (m := (TL.numL n).length) (by omega)
  rintro m Γ S ⟨k, acc, rfl, rfl, rfl, ha, e⟩
  have hl := congrArg List.length e
  rw [List.length_append, List.length_reverse] at hl
  have la : (acc.map sg).length < 1000000 := by rw [List.length_map]; omega
  by_cases hk : k < 10
  · walk_at "w"
    refine ⟨fun _ => ?_, fun h => absurd (of_decide_eq_true h) (by omega)⟩
    subst hR
    have f1 := fun S => fig_at (S := S) hk
    unfold r1_law_figures
    refine Pv.W.go ?_
    walk_at "w"
    refine ⟨_, _, f1 _, ?_⟩
    have en : TL.numL n = (acc ++ [48 + k]).reverse := by rw [e, TL.numL_lt hk, List.reverse_append]; rfl
    walk_at "w"
    have er : (List.map sg acc ++ [sg (48 + k)]).reverse = ((TL.numL n).map fun c => (⟨#[c]⟩ : Str)).map PV.str := by
      have : List.map sg acc ++ [sg (48 + k)] = (acc ++ [48 + k]).map sg := by rw [List.map_append]; rfl
      rw [this, ← List.map_reverse, ← en, List.map_map]
      rfl
    rw [er]
    have hj := joinF_d (S := [some (Kd.lst, ((TL.numL n).map fun c => (⟨#[c]⟩ : Str)).map PV.str)]) (p := .ref 0) (a := "") (ys := (TL.numL n).map fun c => (⟨#[c]⟩ : Str)) (k := 1) rfl (fun y hy => by
      obtain ⟨c, _, rfl⟩ := List.mem_map.mp hy
      exact Nat.le_refl _) (by
      have h1 : ("" : Str).length = 0 := by decide
      rw [h1, List.length_map]
      omega)
    refine ⟨_, _, hj, _, _, rfl, ?_⟩
    rw [join_sg, numS]
    rfl
  · walk_at "w"
    refine ⟨fun h => absurd (of_decide_eq_false h) (by omega), fun _ => ?_⟩
    have f1 := fun S => fig_at (S := S) (Nat.mod_lt k (by decide : 0 < 10))
    have st := TL.numL_step (n := k) (by omega)
    unfold l0_law_figures
    walk_at "w"
    refine ⟨_, _, f1 _, ?_⟩
    walk_at "w"
    refine ⟨(TL.numL (k / 10)).length, by rw [st, List.length_append]; simp, k / 10, acc ++ [48 + k % 10], rfl, rfl, by simp, ?_, ?_⟩
    · rw [st, List.length_append] at hl
      rw [List.length_append]
      simp at hl ⊢
      omega
    · rw [e, st, List.reverse_append, List.append_assoc]
      rfl
end Law
/-! Tw7: _law_figures and _law_item. -/
namespace Law
open PySem PySem.Spec PyProof.Rows L2 Pv
theorem fig_pos {m n : Nat} (h : n < 10 ^ 31) : f_law_figures (m + 1) [.int (n : Nat)] = .ok (.str (Str.ofString (toString ((n : Nat) : Int)))) := by
  show runP 1 3 (body_law_figures (f_law_figures m)) [.int (n : Nat)] = _
  refine Pv.W.rdP rfl ?_
  show rsP (body_law_figures (f_law_figures m) [some (.int (n : Nat)), none, none] []) _
  have := fig_nat (f := f_law_figures m) h
  unfold body_law_figures
  generalize hR : r2_law_figures (f_law_figures m) = R2 at this ⊢
  walk_at "w"
  exact this
theorem fig_ok {i : Int} (h1 : -(10 ^ 30) ≤ i) (h2 : i ≤ 10 ^ 30) : f_law_figures 10 [.int i] = .ok (.str (Str.ofString (toString i))) := by
  by_cases h : 0 ≤ i
  · obtain ⟨n, rfl⟩ : ∃ n : Nat, i = n := ⟨i.toNat, by omega⟩
    exact fig_pos (m := 9) (n := n) (by omega)
  · obtain ⟨n, rfl⟩ : ∃ n : Nat, i = -((n : Nat) : Int) := ⟨(-i).toNat, by omega⟩
    have hn : n < 10 ^ 31 := by omega
    have fp := fig_pos (m := 8) hn
    have nt := neg_text (n := n) (by omega)
    show runP 1 3 (body_law_figures (f_law_figures 9)) [.int (-((n : Nat) : Int))] = _
    refine Pv.W.rdP rfl ?_
    show rsP (body_law_figures (f_law_figures 9) [some (.int (-((n : Nat) : Int))), none, none] []) _
    have hl := num_len hn
    have h1 : ("-" : Str).length = 1 := by decide
    unfold body_law_figures
    generalize hF : f_law_figures 9 = F at fp ⊢
    generalize hR : r2_law_figures F = R2
    walk_at "w"
    have ea : addF false (.str "-") (.str (Str.ofString (toString ((n : Nat) : Int)))) [] = some (.str (Str.ofString (toString (-((n : Nat) : Int)))), []) := by
      rw [addF_str, if_pos (by rw [sizeLine_eq]; omega), nt]
    refine ⟨[.int (n : Nat)], _, by rw [Int.neg_neg]; rfl, fp, _, _, ea, Pv.W.goR ⟨_, _, rfl, rfl⟩⟩
theorem law_item_int {i : Int} (h1 : -(10 ^ 30) ≤ i) (h2 : i ≤ 10 ^ 30) : f_law_item [.int i] = .ok (.str (Str.ofString (toString i))) := by
  have f := fig_ok h1 h2
  refine Pv.W.rdP rfl ?_
  show rsP (body_law_item [some (.int i)] []) _
  unfold body_law_item
  generalize f_law_figures 10 = F at f ⊢
  walk_at "w"
  exact ⟨_, _, rfl, f, _, _, rfl, rfl⟩
theorem law_item_str {w : Str} : f_law_item [.str w] = .ok (.str w) := by
  refine Pv.W.rdP rfl ?_
  show rsP (body_law_item [some (.str w)] []) _
  unfold body_law_item
  walk_at "w"
  exact ⟨_, _, rfl, rfl⟩
theorem law_item_non : f_law_item [.non] = .ok (.str "any") := by
  refine Pv.W.rdP rfl ?_
  show rsP (body_law_item [some .non] []) _
  unfold body_law_item
  walk_at "w"
  exact ⟨_, _, rfl, rfl⟩
end Law
namespace Law
open PySem PySem.Spec PyProof.Rows L2 Pv
/-! Words. -/
def IsW (t : Str) : Prop := 1 ≤ t.cps.toList.length ∧ t.cps.toList.length ≤ 8 ∧ ∀ c ∈ t.cps.toList, 97 ≤ c ∧ c ≤ 122
instance (t : Str) : Decidable (IsW t) := inferInstanceAs (Decidable (_ ∧ _ ∧ _))
theorem IsW.len {t : Str} (h : IsW t) : t.length ≤ 8 := by
  have := h.2.1
  simpa [Str.length] using this
theorem cps_app (a b : Str) : (a ++ b : Str).cps.toList = a.cps.toList ++ b.cps.toList := by
  show (a.cps ++ b.cps).toList = _
  simp
theorem join_cps (ys : List Str) {x : Str} (hx : x.cps.toList = []) : (Txt.join x ys).cps.toList = (ys.map fun y => y.cps.toList).flatten := by
  show (Builtin.Str.glued x ys).cps.toList = _
  rw [StrLaws.glued_eq_join]
  induction ys with
  | nil => rfl
  | cons a r ih =>
    cases r with
    | nil => simp [PySem.Str.join]
    | cons b r =>
      simp only [PySem.Str.join, cps_app, ih, hx]
      simp
theorem join_ones {S : Sto} {x : Str} {m : Md} (hx : x.cps.toList = []) (cs : List Nat) (hl : cs.length ≤ 16777216) :
    joinF (.str x) [.con m .lst (cs.map fun c => .str ⟨#[c]⟩)] S = some (.str ⟨cs.toArray⟩, S) := by
  have e0 : ∀ cs : List Nat, strsOf (cs.map fun c => PV.str ⟨#[c]⟩) = some (cs.map fun c => ⟨#[c]⟩) := fun cs => by
    induction cs with
    | nil => rfl
    | cons c cs ih => simp [strsOf, ih]
  have e1 := e0 cs
  have e2 : (((cs.map fun c => (⟨#[c]⟩ : Str)).map (·.length)).sum) = cs.length := by
    rw [sum_ones _ (by simp [Str.length])]; simp
  have e3 : x.length = 0 := by simpa [Str.length] using congrArg List.length hx
  have e4 : Txt.join x (cs.map fun c => (⟨#[c]⟩ : Str)) = ⟨cs.toArray⟩ := by
    have h := join_cps (cs.map fun c => (⟨#[c]⟩ : Str)) hx
    have h2 : ∀ cs : List Nat, ((cs.map fun c => (⟨#[c]⟩ : Str)).map fun y => y.cps.toList).flatten = cs := fun cs => by
      induction cs with
      | nil => rfl
      | cons c cs ih => simpa using ih
    rw [h2] at h
    generalize Txt.join x (cs.map fun c => (⟨#[c]⟩ : Str)) = z at h
    obtain ⟨a⟩ := z
    simp only at h
    rw [← h]
  simp [-List.map_map, joinF, e1, e2, e3, e4, hl]
abbrev letC (cs : List Nat) : List PV := cs.map fun c => .str ⟨#[c]⟩
theorem letters_lcL {f : PV → Sto → R (Option PV)} (P : Sto → Prop) : ∀ (ps : List PV) (acc : List Nat) (S : Sto), (∀ p ∈ ps, ∀ S, P S → ∃ c S', f p S = .ok (some (.str ⟨#[c]⟩)) S' ∧ P S' ∧ 97 ≤ c ∧ c ≤ 122) → P S → acc.length + ps.length ≤ sizeLine → (∀ c ∈ acc, 97 ≤ c ∧ c ≤ 122) →
    ∃ cs S', lcL f ps (letC acc) S = .ok (letC cs) S' ∧ P S' ∧ cs.length = acc.length + ps.length ∧ (∀ c ∈ cs, 97 ≤ c ∧ c ≤ 122)
  | [], acc, S, _, h, _, ha => ⟨acc, S, rfl, h, rfl, ha⟩
  | p :: ps, acc, S, F, h, hl, ha => by
    obtain ⟨c, S1, e, h1, q⟩ := F p (by simp) S h
    simp only [List.length_cons] at hl
    obtain ⟨cs, S2, e2, h2, l2, q2⟩ := letters_lcL P ps (acc ++ [c]) S1 (fun p hp => F p (by simp [hp])) h1 (by simp; omega) (by
      intro d hd
      rcases List.mem_append.mp hd with hd | hd
      · exact ha d hd
      · simp at hd; subst hd; exact q)
    refine ⟨cs, S2, ?_, h2, by simp at l2 ⊢; omega, q2⟩
    rw [lcL, e]; dsimp only; rw [if_pos (by simp [letC]; omega), ← e2]
    simp [letC]
theorem word_ok {S : Sto} {n : Nat} {ns : List Int} (d : DR n ns S) : ∃ t S', f_law_word [.ref n] S = .ok (.str t) S' ∧ IsW t ∧ DR n ns S' ∧ Fr n S S' := by
  unfold f_law_word
  rw [runW_eq (np := 1) rfl]
  obtain ⟨r, S1, e1, r0, r1, d1, f1⟩ := draw d 10 (by decide) (by decide)
  by_cases h : r < 8
  · obtain ⟨x, ex, mx⟩ := atI_mem (xs := ([.str "a", .str "b", .str "x", .str "line", .str "zero", .str "unbound", .str "any", .str "handler"] : List PV)) r0 (by simpa using h)
    have : ∃ t, x = .str t ∧ IsW t := by
      simp only [List.mem_cons, List.not_mem_nil, or_false] at mx
      rcases mx with rfl | rfl | rfl | rfl | rfl | rfl | rfl | rfl <;> exact ⟨_, rfl, by decide⟩
    obtain ⟨t, rfl, ht⟩ := this
    refine ⟨t, S1, ?_, ht, d1, f1⟩
    simp [body_law_word, szl, e1, h, ex]
  · obtain ⟨s, S2, e2, s0, s1, d2, f2⟩ := draw d1 8 (by decide) (by decide)
    obtain ⟨cs, S3, e3, ⟨d3, f3⟩, l3, q3⟩ := letters_lcL (f := lcT (gN 5) bYes (eOp ixF (eV 3) (eCallW f_law_draw (aCons (eV 0) (aCons (eC (.int 26)) aNil)))) [some (.ref n), some (.con .own .lst [.str "a", .str "b", .str "x", .str "line", .str "zero", .str "unbound", .str "any", .str "handler"]), some (.int r), some (.str "abcdefghijklmnopqrstuvwxyz"), some (.int (1 + s)), none])
      (fun S' => DR n ns S' ∧ Fr n S2 S') (intsF 0 (1 + s).toNat) [] S2 (fun p _ S' ⟨d', f'⟩ => by
        obtain ⟨u, S4, e4, u0, u1, d4, f4⟩ := draw d' 26 (by decide) (by decide)
        obtain ⟨c, ec, lc⟩ := ixB_str1 (S := S4) (z := "abcdefghijklmnopqrstuvwxyz") (i := u) (by decide) u0 u1
        have hc : ∀ c ∈ ("abcdefghijklmnopqrstuvwxyz" : Str).cps.toList, 97 ≤ c ∧ c ≤ 122 := by decide
        exact ⟨c, S4, by simp [lcT, bYes, e4, ec], ⟨d4, f'.trans f4⟩, hc c lc⟩) ⟨d2, Fr.refl⟩ (by simp [intsF_len, szl]; omega) (by simp)
    simp only [List.length_nil, intsF_len, Nat.zero_add] at l3
    have hj := join_ones (S := S3) (x := "") (m := .own) (by decide) cs (by omega)
    refine ⟨⟨cs.toArray⟩, S3, ?_, ⟨by simp; omega, by simp; omega, by simpa using q3⟩, d3, f1.trans (f2.trans f3)⟩
    simp only [letC, List.map_nil] at e3
    simp [body_law_word, r0_law_word, szl, e1, h, e2, r1K_ok (S := S2) (n := 1 + s) ⟨by omega, by omega⟩, e3, hj]
end Law
/-! Ld: lists of drawn things. -/
namespace Law
open PySem PySem.Spec PyProof.Rows L2 Pv
theorem lcDraw_eq {Γ : Gam} {S : Sto} {as : AF} {i m : Nat} {te : EF} (P : Sto → Prop) (C : PV → Prop) {S1 : Sto} (e : as Γ S = .ok [.int (m : Nat)] S1) (h1 : m < 1000000) (p : P S1) (ht : ∀ x S, P S → okR (te ((wipeG Γ [i]).set i (some x)) S) fun v S' => P S' ∧ C v) :
    ∃ us S2, P S2 ∧ (∀ v ∈ us, C v) ∧ us.length = m ∧ eLc true (iR1 as) (gN i) bYes te [i] Γ S = .ok (.ref S2.length) (S2 ++ [some (Kd.lst, us)]) ∧ eLc false (iR1 as) (gN i) bYes te [i] Γ S = .ok (.con .own .lst us) S2 := by
  have z : sizeLine = 16777216 := sizeLine_eq
  have hlen : (intsF 0 m).length = m := intsF_len
  obtain ⟨us, S2, e1, p2, q2, l2⟩ := lcL_inv (f := lcT (gN i) bYes te (wipeG Γ [i])) P C (intsF 0 m) [] S1 (fun x _ S pS => by
    obtain ⟨v, S', e3, p3, c3⟩ := (ht x S pS).eq
    refine ⟨v, S', ?_, p3, c3⟩
    unfold lcT
    rw [gN_eq]
    show (match te _ S with | .ok v S3 => R.ok (some v) S3 | _ => .bad) = _
    rw [e3]) p (by rw [hlen]; simp; omega)
  rw [List.nil_append] at e1
  refine ⟨us, S2, p2, q2, by rw [l2, hlen], ?_, ?_⟩
  · rw [eLc_eq, iR1_eq, e, r1K_ok ⟨by omega, by omega⟩, Int.toNat_natCast, lcK_L, e1, lcK2_t]
  · rw [eLc_eq, iR1_eq, e, r1K_ok ⟨by omega, by omega⟩, Int.toNat_natCast, lcK_L, e1, lcK2_f]
/-- a list of drawn things that stays -/
theorem W.lcDrawF {Γ : Gam} {S : Sto} {as : AF} {i m : Nat} {te : EF} {Q : PV → Sto → Prop} (P : Sto → Prop) (C : PV → Prop) (h : okR (as Γ S) fun vs S1 => vs = [.int (m : Nat)] ∧ m < 1000000 ∧ P S1 ∧ (∀ x S, P S → okR (te ((wipeG Γ [i]).set i (some x)) S) fun v S' => P S' ∧ C v) ∧ ∀ vs S2, P S2 → (∀ v ∈ vs, C v) → vs.length = m → Q (.con .own .lst vs) S2) : okR (eLc false (iR1 as) (gN i) bYes te [i] Γ S) Q := by
  obtain ⟨vs, S1, e, rfl, h1, p, ht, q⟩ := h.eq
  obtain ⟨us, S2, a1, a2, a3, _, a4⟩ := lcDraw_eq P C e h1 p ht
  exact okR.of a4 (q us S2 a1 a2 a3)
end Law
/-! Kp: what is kept: flags, places. -/
/-! R8: rows with what cannot be reached blanked out. -/
namespace Law
open PySem PySem.Spec PyProof.Rows L2 Pv
def bl2 (K : Nat → Bool) (n i : Nat) (r : Rw) : Rw := if K i = true then r else ⟨if i + 1 = n then .op .stop else .op .skip, r.l⟩
abbrev rows2 (K : Nat → Bool) (rows : List Rw) : List Rw := rows.mapIdx (bl2 K rows.length)
/-- the next kept place -/
def nk (K : Nat → Bool) (n j : Nat) : Option Nat := (List.range n).find? fun k => decide (j ≤ k) && K k
def D2 (K : Nat → Bool) (n : Nat) (D : Nat → Nat) (j : Nat) : Nat := match nk K n j with
  | some k => D k
  | none => 0
end Law
/-! Kq: what is kept: answers, walks. -/
namespace Law
open PySem PySem.Spec PyProof.Rows L2 Pv
def kD (ds : List (Option Nat)) (k : Nat) : Bool := match ds[k]? with
  | some (some _) => true
  | _ => false
end Law
/-! Y9g: law_told of a unit and where it came from. -/
namespace Law
open PySem PySem.Spec PyProof.Rows L2 Pv
section
variable {rows : List Rw} {hds : List Hnd} {S : Sto}
theorem dat_pvs : dats 2 (pvs rows) := dats_of fun v hv => by
  unfold pvs at hv
  obtain ⟨r, _, rfl⟩ := List.mem_map.mp hv
  cases h : r.i with
  | op o => simp [Itr.pv, dat, dats]
  | _ => simp [Itr.pv, dat, dats]
theorem dat_lns : dats 2 (lns rows) := dats_of fun v hv => by
  unfold lns at hv
  obtain ⟨r, _, rfl⟩ := List.mem_map.mp hv
  trivial
theorem dat_hvs : dats 2 (hvs hds) := dats_of fun v hv => by
  unfold hvs at hv
  obtain ⟨h, _, rfl⟩ := List.mem_map.mp hv
  unfold Hnd.pv
  cases h.k <;> simp [okP, dat, dats]
end
end Law
/-! Uq: == of units. -/
namespace Law
open PySem PySem.Spec PyProof.Rows L2 Pv
section
variable {ml mh ml' mh' : Md} {cs ls hs cs' ls' hs' : List PV} {d d' : PV} (d1 : dats 2 cs) (d2 : dats 2 ls) (d3 : dats 2 hs) (d1' : dats 2 cs') (d2' : dats 2 ls') (d3' : dats 2 hs')
include d1 d2 d3 d1' d2' d3'
theorem unit_eq : f_Unit_eq [unitM ml mh cs ls hs d, unitM ml' mh' cs' ls' hs' d'] = .ok (.bl (teq cs cs' && (teq ls ls' && teq hs hs'))) := by
  walk_at "in"
  unfold body_Unit_eq
  walk_at "s"
  walk_at "s"
  refine okR.of (v := .bl true) (S := []) rfl ?_
  walk_at "s"
  walk_at "s"
  have e1 : eOp eqF (eFld ["Unit"] "code" (eV 0)) (eFld ["Unit"] "code" (eV 1)) [some (unitM ml mh cs ls hs d), some (unitM ml' mh' cs' ls' hs' d')] [] = .ok (.bl (teq cs cs')) [] := by
    show R.of ((eqB [] (.con .own .tup cs) (.con .own .tup cs')).map _) = _
    rw [eqB_tup d1 d1']; rfl
  have e2 : eOp eqF (eFld ["Unit"] "lines" (eV 0)) (eFld ["Unit"] "lines" (eV 1)) [some (unitM ml mh cs ls hs d), some (unitM ml' mh' cs' ls' hs' d')] [] = .ok (.bl (teq ls ls')) [] := by
    show R.of ((eqB [] (.con ml .tup ls) (.con ml' .tup ls')).map _) = _
    rw [eqB_tup d2 d2']; rfl
  have e3 : eOp eqF (eFld ["Unit"] "handlers" (eV 0)) (eFld ["Unit"] "handlers" (eV 1)) [some (unitM ml mh cs ls hs d), some (unitM ml' mh' cs' ls' hs' d')] [] = .ok (.bl (teq hs hs')) [] := by
    show R.of ((eqB [] (.con mh .tup hs) (.con mh' .tup hs')).map _) = _
    rw [eqB_tup d3 d3']; rfl
  refine Pv.W.eAnd (okR.of e1 ⟨_, rfl, fun h1 => ?_, fun h1 => ?_⟩)
  · rw [h1]
    refine Pv.W.eAnd (okR.of e2 ⟨_, rfl, fun h2 => ?_, fun h2 => ?_⟩)
    · rw [h2]
      exact okR.of e3 ⟨_, _, rfl, by simp⟩
    · rw [h2]
      exact ⟨_, _, rfl, rfl⟩
  · rw [h1]
    exact ⟨_, _, rfl, rfl⟩
theorem unit_eq2 {S : Sto} (c : clean (unitM ml mh cs ls hs d) = true) (c' : clean (unitM ml' mh' cs' ls' hs' d') = true) : eqF2 "Unit" f_Unit_eq (unitM ml mh cs ls hs d) (unitM ml' mh' cs' ls' hs' d') S = some (.bl (teq cs cs' && (teq ls ls' && teq hs hs')), S) := by
  have e := unit_eq (d := d) (d' := d') (ml := ml) (mh := mh) (ml' := ml') (mh' := mh') d1 d2 d3 d1' d2' d3'
  have z : eqF (unitM ml mh cs ls hs d) (unitM ml' mh' cs' ls' hs' d') S = none := rfl
  unfold eqF2
  rw [z]
  show eqOF "Unit" f_Unit_eq S (unitM ml mh cs ls hs d) (unitM ml' mh' cs' ls' hs' d') = _
  have y : ∀ (ml mh : Md) (cs ls hs : List PV) (d : PV), derefH S (unitM ml mh cs ls hs d) = some (.ins "Unit" ["code", "lines", "handlers", "found_depths"], [.con .own .tup cs, .con ml .tup ls, .con mh .tup hs, d]) := fun _ _ _ _ _ _ => rfl
  unfold eqOF
  simp only [y, lend_clean c, lend_clean c', e, and_self, if_true]
end
/-! ### equal as data, equal as rows -/
theorem nm_inj {a b : Opc} (h : a.name = b.name) : a = b := by
  cases a <;> cases b <;> first | rfl | (exact absurd h (by decide +kernel))
theorem itr_inj {i j : Itr} (h : same i.pv j.pv = true) : i = j := by
  cases i <;> cases j <;> simp [Itr.pv, same, sames] at h <;> first
    | (obtain ⟨h1, h2⟩ := h; exact absurd h1 (by decide +kernel))
    | (exact absurd h (by decide +kernel))
    | (exact congrArg _ (nm_inj h))
    | (subst h; rfl)
    | (congr 1; omega)
    | (exact absurd h.1 (by decide +kernel))
theorem hnd_inj {x y : Hnd} (h : same x.pv y.pv = true) : x = y := by
  obtain ⟨a, b, c, d, k⟩ := x
  obtain ⟨a', b', c', d', k'⟩ := y
  cases k <;> cases k' <;> simp [Hnd.pv, okP, same, sames] at h
  · obtain ⟨h1, h2, h3, h4⟩ := h
    have e1 : a = a' := by omega
    have e2 : b = b' := by omega
    have e3 : c = c' := by omega
    have e4 : d = d' := by omega
    subst e1 e2 e3 e4; rfl
  · obtain ⟨h1, h2, h3, h4, h5⟩ := h
    have e1 : a = a' := by omega
    have e2 : b = b' := by omega
    have e3 : c = c' := by omega
    have e4 : d = d' := by omega
    subst e1 e2 e3 e4 h5; rfl
section
variable {rows rows' : List Rw} {hds hds' : List Hnd}
theorem nb_itr (i : Itr) : nb i.pv = true := by cases i <;> rfl
theorem nb_hnd (h : Hnd) : nb h.pv = true := by obtain ⟨a, b, c, d, k⟩ := h; cases k <;> rfl
theorem nbs_of : ∀ {xs : List PV}, (∀ v ∈ xs, nb v = true) → nbs xs = true
  | [], _ => rfl
  | x :: xs, h => by
    unfold nbs
    rw [h x (by simp), nbs_of fun v hv => h v (by simp [hv])]
    rfl
theorem teq_same {xs ys : List PV} (d1 : dats 2 xs) (d2 : dats 2 ys) (n1 : nbs xs = true) (n2 : nbs ys = true) (h : teq xs ys = true) : sames xs ys = true := sames_eqq d1 d2 n1 n2 h
theorem pvs_inj : ∀ {a b : List Rw}, sames (pvs a) (pvs b) = true → sames (lns a) (lns b) = true → a = b
  | [], [], _, _ => rfl
  | [], y :: b, h, _ => by cases h
  | x :: a, [], h, _ => by cases h
  | x :: a, y :: b, h, h2 => by
    have h : (same x.i.pv y.i.pv && sames (pvs a) (pvs b)) = true := h
    have h2 : (same (.int (x.l : Nat)) (.int (y.l : Nat)) && sames (lns a) (lns b)) = true := h2
    simp only [Bool.and_eq_true] at h h2
    have e1 := itr_inj h.1
    have e2 : x.l = y.l := by
      have := h2.1
      simp [same] at this
      omega
    rw [pvs_inj h.2 h2.2]
    obtain ⟨i, l⟩ := x
    obtain ⟨i', l'⟩ := y
    simp only at e1 e2
    rw [e1, e2]
theorem hvs_inj : ∀ {a b : List Hnd}, sames (hvs a) (hvs b) = true → a = b
  | [], [], _ => rfl
  | [], y :: b, h => by cases h
  | x :: a, [], h => by cases h
  | x :: a, y :: b, h => by
    have h : (same x.pv y.pv && sames (hvs a) (hvs b)) = true := h
    simp only [Bool.and_eq_true] at h
    rw [hvs_inj h.2, hnd_inj h.1]
theorem teqU : (teq (pvs rows) (pvs rows') && (teq (lns rows) (lns rows') && teq (hvs hds) (hvs hds'))) = true ↔ rows = rows' ∧ hds = hds' := by
  constructor
  · intro h
    simp only [Bool.and_eq_true] at h
    obtain ⟨h1, h2, h3⟩ := h
    have n1 : ∀ r : List Rw, nbs (pvs r) = true := fun r => nbs_of fun v hv => by obtain ⟨x, _, rfl⟩ := List.mem_map.mp hv; exact nb_itr _
    have n2 : ∀ r : List Rw, nbs (lns r) = true := fun r => nbs_of fun v hv => by obtain ⟨x, _, rfl⟩ := List.mem_map.mp hv; rfl
    have n3 : ∀ r : List Hnd, nbs (hvs r) = true := fun r => nbs_of fun v hv => by obtain ⟨x, _, rfl⟩ := List.mem_map.mp hv; exact nb_hnd _
    exact ⟨pvs_inj (teq_same dat_pvs dat_pvs (n1 _) (n1 _) h1) (teq_same dat_lns dat_lns (n2 _) (n2 _) h2), hvs_inj (teq_same dat_hvs dat_hvs (n3 _) (n3 _) h3)⟩
  · rintro ⟨rfl, rfl⟩
    rw [teq_refl dat_pvs, teq_refl dat_lns, teq_refl dat_hvs]; try rfl
/-- two units compared -/
theorem unitEq {S : Sto} {ml mh ml' mh' : Md} {d d' : PV} (c : clean (unitM ml mh (pvs rows) (lns rows) (hvs hds) d) = true) (c' : clean (unitM ml' mh' (pvs rows') (lns rows') (hvs hds') d') = true) : ∃ b, eqF2 "Unit" f_Unit_eq (unitM ml mh (pvs rows) (lns rows) (hvs hds) d) (unitM ml' mh' (pvs rows') (lns rows') (hvs hds') d') S = some (.bl b, S) ∧ (b = true ↔ rows = rows' ∧ hds = hds') :=
  ⟨_, unit_eq2 dat_pvs dat_lns dat_hvs dat_pvs dat_lns dat_hvs c c', teqU⟩
end
end Law
/-! Tp1: words renamed; which rows can be written and read (plain). -/
namespace Law
open PySem PySem.Spec PyProof.Rows L2 Pv
def nmW (nw : List Str) (w : Str) : Str := nw.getD ((["a", "b", "c"] : List Str).idxOf w) "a"
def ren (nw : List Str) (i : Itr) : Itr := match i with
  | .ld w => .ld (nmW nw w)
  | .sto w => .sto (nmW nw w)
  | i => i
def renR (nw : List Str) (_ : Nat) (r : Rw) : Rw := ⟨ren nw r.i, r.l⟩
section
variable {rows : List Rw} {hds : List Hnd} {D : Nat → Nat} {nw : List Str}
theorem ren_rem (i : Itr) : (ren nw i).rem = i.rem := by cases i <;> rfl
theorem ren_push (i : Itr) : (ren nw i).push = i.push := by cases i <;> rfl
theorem ren_last (i : Itr) : (ren nw i).last = i.last := by cases i <;> rfl
theorem ren_tgt (i : Itr) : (ren nw i).tgt = i.tgt := by cases i <;> rfl
theorem ren_ex (n : Nat) (hds : List Hnd) (j : Nat) (i : Itr) : exits n hds j (ren nw i) = exits n hds j i := by cases i <;> rfl
theorem nmW_ok (h : ∀ w ∈ nw, WdOk w) (w : Str) : WdOk (nmW nw w) := by
  unfold nmW
  rw [List.getD_eq_getElem?_getD]
  cases q : nw[(["a", "b", "c"] : List Str).idxOf w]? with
  | none => show WdOk "a"; decide +kernel
  | some x => exact h x (List.mem_of_getElem? q)
theorem ren_good (h : ∀ w ∈ nw, WdOk w) {i : Itr} (g : i.good) : (ren nw i).good := by
  cases i with
  | ld w => exact nmW_ok h w
  | sto w => exact nmW_ok h w
  | _ => exact g
theorem ren_at {j : Nat} {r : Rw} (h : (rows.mapIdx (renR nw))[j]? = some r) : ∃ r0, rows[j]? = some r0 ∧ r = ⟨ren nw r0.i, r0.l⟩ := by
  rw [List.getElem?_mapIdx] at h
  obtain ⟨r0, h1, rfl⟩ := Option.map_eq_some_iff.mp h
  exact ⟨r0, h1, rfl⟩
theorem tidy_ren (t : Tidy rows hds D) (h : ∀ w ∈ nw, WdOk w) : Tidy (rows.mapIdx (renR nw)) hds D := by
  have e : (rows.mapIdx (renR nw)).length = rows.length := List.length_mapIdx
  obtain ⟨⟨h1, h2, h3, h4, h5, h6, h7⟩, c, d0⟩ := t
  refine ⟨⟨by rw [e]; exact h1, by rw [e]; exact h2, fun j r hr => ?_, fun j r hr hl => ?_, fun j r hr u hu => ?_, fun x hx => by rw [e]; exact h6 x hx, h7⟩, fun j r hr => ?_, d0⟩
  · obtain ⟨r0, q, rfl⟩ := ren_at hr
    exact ⟨ren_good h (h3 j r0 q).1, (h3 j r0 q).2⟩
  · obtain ⟨r0, q, rfl⟩ := ren_at hr
    rw [e]
    exact h4 j r0 q (by rw [← ren_last (nw := nw)]; exact hl)
  · obtain ⟨r0, q, rfl⟩ := ren_at hr
    rw [e]
    exact h5 j r0 q u (by rw [← ren_tgt (nw := nw)]; exact hu)
  · obtain ⟨r0, q, rfl⟩ := ren_at hr
    have := c j r0 q
    rw [e]
    show (ren nw r0.i).rem ≤ _ ∧ ∀ x ∈ exits _ hds j (ren nw r0.i), (∀ h, x.2 = some h → h.d ≤ D j) ∧ wantd (D j - (ren nw r0.i).rem + (ren nw r0.i).push) x = D x.1
    rw [ren_rem, ren_push, ren_ex]
    exact this
/-! ### rows that can be written -/
theorem wd_len {w : Str} (h : WdOk w) : w.length ≤ 8 := by rw [← tl_len]; exact h.2.1
theorem op_len (o : Opc) : o.name.length ≤ 40 := by cases o <;> decide
theorem good_w {r : Rw} (g : r.good) (ht : ∀ t, r.i.tgt = some t → t < 10 ^ 30) : RwW r := by
  obtain ⟨i, l⟩ := r
  obtain ⟨g, hl⟩ := g
  have hl : l ≤ 1000000 := hl
  refine ⟨nw (by show l < _; omega), fun x hx => ?_⟩
  have w1 : ∀ w : Str, WdOk w → WP (.str w) := fun w h => by have := wd_len h; show w.length ≤ 40; omega
  have cst : ∀ {s : Str}, s.length ≤ 40 → WP (.str s) := fun h => h
  cases i with
  | c n =>
    simp only [its, List.mem_cons, List.not_mem_nil, or_false] at hx
    rcases hx with rfl | rfl
    · exact cst (by decide)
    · exact wp_int g.1 g.2
  | ld w =>
    simp only [its, List.mem_cons, List.not_mem_nil, or_false] at hx
    rcases hx with rfl | rfl
    · exact cst (by decide)
    · exact w1 _ g
  | sto w =>
    simp only [its, List.mem_cons, List.not_mem_nil, or_false] at hx
    rcases hx with rfl | rfl
    · exact cst (by decide)
    · exact w1 _ g
  | op o =>
    simp only [its, List.mem_cons, List.not_mem_nil, or_false] at hx
    subst hx
    exact cst (op_len o)
  | fl w =>
    simp only [its, List.mem_cons, List.not_mem_nil, or_false] at hx
    rcases hx with rfl | rfl
    · exact cst (by decide)
    · exact w1 _ g
  | jp t =>
    simp only [its, List.mem_cons, List.not_mem_nil, or_false] at hx
    have := ht t rfl
    rcases hx with rfl | rfl
    · exact cst (by decide)
    · exact wp_int (by omega) (by omega)
  | ji t =>
    simp only [its, List.mem_cons, List.not_mem_nil, or_false] at hx
    have := ht t rfl
    rcases hx with rfl | rfl
    · exact cst (by decide)
    · exact wp_int (by omega) (by omega)
theorem Raw.rw_w (w : Raw rows hds) : ∀ r ∈ rows, RwW r := fun r hr => by
  obtain ⟨j, hj⟩ := List.getElem?_of_mem hr
  refine good_w (w.good j r hj) fun t ht => ?_
  have := w.tgt j r hj t ht
  have := w.len
  omega
theorem Raw.hd_w (w : Raw rows hds) : ∀ h ∈ hds, HdW h := fun h hm => by
  obtain ⟨g, h1, h2, h3, h4⟩ := w.hd h hm
  have := w.len
  refine ⟨nw (by omega), nw (by omega), nw (by omega), nw (by omega), ?_⟩
  obtain ⟨s, e, t, d, k⟩ := h
  cases k with
  | none => show ("any" : Str).length ≤ 40; decide
  | some w' => have := wd_len (g w' rfl).1; show w'.length ≤ 40; omega
/-! ### and read again -/
theorem free_nat {n s : Nat} (h : s < 48 ∨ 57 < s) : s ∉ TL.tl (Str.ofString (toString ((n : Nat) : Int))) := by rw [TL.tl_num]; exact TL.numL_free h
theorem free_int {i : Int} {s : Nat} (h : s < 45) : s ∉ TL.tl (Str.ofString (toString i)) := by
  by_cases h0 : 0 ≤ i
  · obtain ⟨n, rfl⟩ : ∃ n : Nat, i = n := ⟨i.toNat, by omega⟩
    exact free_nat (by omega)
  · obtain ⟨n, rfl⟩ : ∃ n : Nat, i = -((n : Nat) : Int) := ⟨(-i).toNat, by omega⟩
    rw [tl_neg (by omega)]
    intro z
    rcases List.mem_cons.mp z with z | z
    · omega
    · exact TL.numL_free (by omega) z
theorem free_wd {w : Str} {s : Nat} (hw : WdOk w) (h : s < 97) : s ∉ TL.tl w := fun z => by have := hw.2.2 s z; omega
theorem free_its {r : Rw} (g : r.good) {s : Nat} (h : s < 45) : ∀ y ∈ rwW r, s ∉ TL.tl y := by
  intro y hy
  rcases List.mem_cons.mp hy with rfl | hy
  · exact free_nat (by omega)
  obtain ⟨x, hx, rfl⟩ := List.mem_map.mp hy
  have cst : ∀ w ∈ (["const", "load", "store", "fail", "jump", "jumpif", "pop", "copy", "add", "sub", "div", "less", "not", "print", "skip", "end"] : List Str), WdOk w := by decide +kernel
  obtain ⟨i, l⟩ := r
  have g : i.good := g.1
  cases i with
  | op o =>
    simp only [its, List.mem_cons, List.not_mem_nil, or_false] at hx
    subst hx
    exact free_wd (cst _ (by cases o <;> decide +kernel)) (by omega)
  | c n =>
    simp only [its, List.mem_cons, List.not_mem_nil, or_false] at hx
    rcases hx with rfl | rfl
    · exact free_wd (cst _ (by decide +kernel)) (by omega)
    · exact free_int h
  | jp n =>
    simp only [its, List.mem_cons, List.not_mem_nil, or_false] at hx
    rcases hx with rfl | rfl
    · exact free_wd (cst _ (by decide +kernel)) (by omega)
    · exact free_int h
  | ji n =>
    simp only [its, List.mem_cons, List.not_mem_nil, or_false] at hx
    rcases hx with rfl | rfl
    · exact free_wd (cst _ (by decide +kernel)) (by omega)
    · exact free_int h
  | ld n =>
    simp only [its, List.mem_cons, List.not_mem_nil, or_false] at hx
    rcases hx with rfl | rfl
    · exact free_wd (cst _ (by decide +kernel)) (by omega)
    · exact free_wd g (by omega)
  | sto n =>
    simp only [its, List.mem_cons, List.not_mem_nil, or_false] at hx
    rcases hx with rfl | rfl
    · exact free_wd (cst _ (by decide +kernel)) (by omega)
    · exact free_wd g (by omega)
  | fl n =>
    simp only [its, List.mem_cons, List.not_mem_nil, or_false] at hx
    rcases hx with rfl | rfl
    · exact free_wd (cst _ (by decide +kernel)) (by omega)
    · exact free_wd g (by omega)
theorem free_hd {h : Hnd} (g : h.good) {s : Nat} (hs : s < 45) : ∀ y ∈ hdW h, s ∉ TL.tl y := by
  intro y hy
  have cst : ∀ w ∈ (["handler", "any"] : List Str), WdOk w := by decide +kernel
  unfold hdW at hy
  simp only [List.mem_cons, List.not_mem_nil, or_false] at hy
  rcases hy with rfl | rfl | rfl | rfl | rfl | rfl
  · exact free_wd (cst _ (by decide +kernel)) (by omega)
  · exact free_nat (by omega)
  · exact free_nat (by omega)
  · exact free_nat (by omega)
  · exact free_nat (by omega)
  · obtain ⟨a, b, c, d, k⟩ := h
    cases k with
    | none => exact free_wd (cst "any" (by decide +kernel)) (by omega)
    | some w => exact free_wd (g w rfl).1 (by omega)
theorem ws_row {r : Rw} (g : r.good) : wsOf (rwT r) = rwW r := TL.split_join (s := 32) (S := []) rfl (by decide +kernel) (by unfold rwW; simp) fun p hp => free_its g (by omega) p hp
theorem ws_hd {h : Hnd} (g : h.good) : wsOf (hdT h) = hdW h := TL.split_join (s := 32) (S := []) rfl (by decide +kernel) (by unfold hdW; simp) fun p hp => free_hd g (by omega) p hp
theorem joinL_free {s t : Nat} (hs : s ≠ t) : ∀ {l : List (List Nat)}, (∀ p ∈ l, s ∉ p) → s ∉ TL.joinL [t] l
  | [], _ => by simp [TL.joinL]
  | [p], h => h p List.mem_cons_self
  | p :: q :: r, h => by
    have ih := joinL_free hs (l := q :: r) fun x hx => h x (List.mem_cons_of_mem _ hx)
    have := h p List.mem_cons_self
    show s ∉ p ++ ([t] ++ TL.joinL [t] (q :: r))
    simp only [List.mem_append, List.mem_singleton, not_or]
    exact ⟨this, hs, ih⟩
theorem join_free {ys : List Str} (h : ∀ y ∈ ys, 10 ∉ TL.tl y) : 10 ∉ TL.tl (Txt.join " " ys) := by
  rw [TL.join_eq, TL.tl_join]
  refine joinL_free (t := 32) (by decide) fun p hp => ?_
  obtain ⟨y, hy, rfl⟩ := List.mem_map.mp hp
  exact h y hy
theorem split_wr (w : Raw rows hds) : Txt.split (wrT rows hds) "\n" = rows.map rwT ++ hds.map hdT := by
  refine TL.split_join (s := 10) (S := []) rfl (by decide +kernel) ?_ fun p hp => ?_
  · have := w.pos
    intro z
    have := congrArg List.length z
    rw [List.length_append, List.length_map, List.length_nil] at this
    omega
  · rcases List.mem_append.mp hp with h | h
    · obtain ⟨r, hr, rfl⟩ := List.mem_map.mp h
      obtain ⟨j, hj⟩ := List.getElem?_of_mem hr
      exact join_free fun y hy => free_its (w.good j r hj) (by omega) y hy
    · obtain ⟨x, hx, rfl⟩ := List.mem_map.mp h
      exact join_free fun y hy => free_hd (w.hd x hx).1 (by omega) y hy
/-- what is read of a written row -/
theorem ins_row {r : Rw} (g : r.good) (ht : ∀ t, r.i.tgt = some t → t < 10 ^ 30) : isH (rwT r) = false ∧ insP (rwW r) = (0, .int (r.l : Nat), r.i.pv) := by
  have hl : r.l ≤ 1000000 := g.2
  obtain ⟨n0, v0⟩ := numR_nat (n := r.l) (a := 0) (b := c_LINES) (by omega) (by omega) (by show (r.l : Int) ≤ 1000000; omega)
  have w0 : wdA (rwW r) 0 = Str.ofString (toString ((r.l : Nat) : Int)) := rfl
  refine ⟨?_, ?_⟩
  · unfold isH
    rw [ws_row g, w0]
    refine decide_eq_false fun z => ?_
    have := congrArg TL.tl z
    rw [TL.tl_num] at this
    have h2 := TL.numL_free (n := r.l) (s := 104) (by omega)
    rw [this] at h2
    exact h2 (by decide)
  unfold insP
  rw [w0, if_neg (fun z => z n0), v0]
  obtain ⟨i, l⟩ := r
  have g : i.good := g.1
  cases i with
  | op o =>
    have w1 : wdA (rwW ⟨.op o, l⟩) 1 = o.name := rfl
    rw [w1, if_pos (by cases o <;> decide +kernel), if_neg (by show ¬ 2 < 2; omega)]
    rfl
  | c n =>
    have w1 : wdA (rwW ⟨.c n, l⟩) 1 = "const" := rfl
    have w2 : wdA (rwW ⟨.c n, l⟩) 2 = Str.ofString (toString n) := rfl
    have it : itemP "const" (Str.ofString (toString n)) = .int n := by
      obtain ⟨q1, q2⟩ := numR_int (i := n) (a := -c_GREATEST) (b := c_GREATEST) (by decide) g.1 g.2 g.1 g.2
      unfold itemP optI
      rw [if_pos rfl, if_pos q1, q2]
    rw [w1, w2, it, if_neg (by decide +kernel), if_neg (by decide +kernel), if_neg (fun z => by rcases z with z | z; (exact absurd z (by show ¬ 3 ≤ 2; omega)); (cases z)), if_neg (by show ¬ 3 < 3; omega)]
    rfl
  | jp n =>
    have w1 : wdA (rwW ⟨.jp n, l⟩) 1 = "jump" := rfl
    have w2 : wdA (rwW ⟨.jp n, l⟩) 2 = Str.ofString (toString ((n : Nat) : Int)) := rfl
    have hn : n < 10 ^ 30 := ht n rfl
    have it : itemP "jump" (Str.ofString (toString ((n : Nat) : Int))) = .int (n : Nat) := by
      obtain ⟨q1, q2⟩ := numR_nat (n := n) (a := 0) (b := c_GREATEST) (by omega) (by omega) (by show (n : Int) ≤ 1000000000000000000000000000000; omega)
      unfold itemP optI
      rw [if_neg (by decide +kernel), if_pos (by decide +kernel), if_pos q1, q2]
    rw [w1, w2, it, if_neg (by decide +kernel), if_neg (by decide +kernel), if_neg (fun z => by rcases z with z | z; (exact absurd z (by show ¬ 3 ≤ 2; omega)); (cases z)), if_neg (by show ¬ 3 < 3; omega)]
    rfl
  | ji n =>
    have w1 : wdA (rwW ⟨.ji n, l⟩) 1 = "jumpif" := rfl
    have w2 : wdA (rwW ⟨.ji n, l⟩) 2 = Str.ofString (toString ((n : Nat) : Int)) := rfl
    have hn : n < 10 ^ 30 := ht n rfl
    have it : itemP "jumpif" (Str.ofString (toString ((n : Nat) : Int))) = .int (n : Nat) := by
      obtain ⟨q1, q2⟩ := numR_nat (n := n) (a := 0) (b := c_GREATEST) (by omega) (by omega) (by show (n : Int) ≤ 1000000000000000000000000000000; omega)
      unfold itemP optI
      rw [if_neg (by decide +kernel), if_pos (by decide +kernel), if_pos q1, q2]
    rw [w1, w2, it, if_neg (by decide +kernel), if_neg (by decide +kernel), if_neg (fun z => by rcases z with z | z; (exact absurd z (by show ¬ 3 ≤ 2; omega)); (cases z)), if_neg (by show ¬ 3 < 3; omega)]
    rfl
  | ld w =>
    have w1 : wdA (rwW ⟨.ld w, l⟩) 1 = "load" := rfl
    have w2 : wdA (rwW ⟨.ld w, l⟩) 2 = w := rfl
    have it : itemP "load" w = .str w := by
      unfold itemP
      rw [if_neg (by decide +kernel), if_neg (by decide +kernel), if_pos (show WdOk w from g)]
    rw [w1, w2, it, if_neg (by decide +kernel), if_neg (by decide +kernel), if_neg (fun z => by rcases z with z | z; (exact absurd z (by show ¬ 3 ≤ 2; omega)); (cases z)), if_neg (by show ¬ 3 < 3; omega)]
    rfl
  | sto w =>
    have w1 : wdA (rwW ⟨.sto w, l⟩) 1 = "store" := rfl
    have w2 : wdA (rwW ⟨.sto w, l⟩) 2 = w := rfl
    have it : itemP "store" w = .str w := by
      unfold itemP
      rw [if_neg (by decide +kernel), if_neg (by decide +kernel), if_pos (show WdOk w from g)]
    rw [w1, w2, it, if_neg (by decide +kernel), if_neg (by decide +kernel), if_neg (fun z => by rcases z with z | z; (exact absurd z (by show ¬ 3 ≤ 2; omega)); (cases z)), if_neg (by show ¬ 3 < 3; omega)]
    rfl
  | fl w =>
    have w1 : wdA (rwW ⟨.fl w, l⟩) 1 = "fail" := rfl
    have w2 : wdA (rwW ⟨.fl w, l⟩) 2 = w := rfl
    have it : itemP "fail" w = .str w := by
      unfold itemP
      rw [if_neg (by decide +kernel), if_neg (by decide +kernel), if_pos (show WdOk w from g)]
    rw [w1, w2, it, if_neg (by decide +kernel), if_neg (by decide +kernel), if_neg (fun z => by rcases z with z | z; (exact absurd z (by show ¬ 3 ≤ 2; omega)); (cases z)), if_neg (by show ¬ 3 < 3; omega)]
    rfl
theorem han_row {h : Hnd} (g : h.good) (hz : h.s < 10 ^ 30 ∧ h.e < 10 ^ 30 ∧ h.t < 10 ^ 30 ∧ h.d < 10 ^ 30) : isH (hdT h) = true ∧ hanP (hdW h) = (0, h.pv) := by
  obtain ⟨h1, h2, h3, h4⟩ := hz
  have nm : ∀ {n : Nat}, n < 10 ^ 30 → NumR 40 0 c_GREATEST (TL.tl (Str.ofString (toString ((n : Nat) : Int)))) ∧ valI (TL.tl (Str.ofString (toString ((n : Nat) : Int)))) = n := fun {n} hn => numR_nat (n := n) (a := 0) (b := c_GREATEST) (by omega) (by omega) (by show (n : Int) ≤ 1000000000000000000000000000000; omega)
  have b1 : NumB (hdW h) 1 := ⟨by show 1 < 6; omega, (nm h1).1⟩
  have b2 : NumB (hdW h) 2 := ⟨by show 2 < 6; omega, (nm h2).1⟩
  have b3 : NumB (hdW h) 3 := ⟨by show 3 < 6; omega, (nm h3).1⟩
  have b4 : NumB (hdW h) 4 := ⟨by show 4 < 6; omega, (nm h4).1⟩
  have v1 : numV (hdW h) 1 = .int (h.s : Nat) := congrArg PV.int (nm h1).2
  have v2 : numV (hdW h) 2 = .int (h.e : Nat) := congrArg PV.int (nm h2).2
  have v3 : numV (hdW h) 3 = .int (h.t : Nat) := congrArg PV.int (nm h3).2
  have v4 : numV (hdW h) 4 = .int (h.d : Nat) := congrArg PV.int (nm h4).2
  have e5 : wdA (hdW h) 5 = kdW h.k := rfl
  have hk : WdOk (kdW h.k) ∧ kndP (kdW h.k) = okP h.k := by
    obtain ⟨a, b, c, d, k⟩ := h
    cases k with
    | none => exact ⟨by show WdOk "any"; decide +kernel, if_pos rfl⟩
    | some w => exact ⟨(g w rfl).1, if_neg (g w rfl).2⟩
  refine ⟨?_, ?_⟩
  · unfold isH
    rw [ws_hd g]
    exact decide_eq_true rfl
  unfold hanP
  have e : [1, 2, 3, 4].find? (fun k => !decide (NumB (hdW h) k)) = none := by simp [b1, b2, b3, b4]
  rw [e]
  show (if (hdW h).length < 6 ∨ ¬ WdOk (wdA (hdW h) 5) then (6, PV.non) else if 6 < (hdW h).length then (7, .non) else (0, .con .own .tup [numV (hdW h) 1, numV (hdW h) 2, numV (hdW h) 3, numV (hdW h) 4, kndP (wdA (hdW h) 5)])) = _
  rw [e5, if_neg (fun z => by rcases z with z | z; (exact absurd z (by show ¬ 6 < 6; omega)); (exact z hk.1)), if_neg (by show ¬ 6 < 6; omega), v1, v2, v3, v4, hk.2]
  rfl
theorem due_rows : ∀ (rs : List Rw) (k : Nat) (c : List Str), (∀ r ∈ rs, r.good ∧ ∀ t, r.i.tgt = some t → t < 10 ^ 30) → dueP k false (rs.map rwT ++ c) = dueP (k + rs.length) false c
  | [], k, c, _ => rfl
  | r :: rs, k, c, h => by
    obtain ⟨g, ht⟩ := h r List.mem_cons_self
    obtain ⟨i1, i2⟩ := ins_row g ht
    rw [List.map_cons, List.cons_append, dueP_cons]
    have w0 : wrongP (rwT r) false = 0 := by
      unfold wrongP
      rw [if_neg (by rw [i1]; decide), if_neg (by decide), ws_row g, i2]
    rw [if_pos w0, i1, Bool.or_self, due_rows rs (k + 1) c fun x hx => h x (List.mem_cons_of_mem _ hx), List.length_cons]
    congr 1
    omega
theorem due_hds : ∀ (hs : List Hnd) (k : Nat) (b : Bool), (∀ h ∈ hs, h.good ∧ h.s < 10 ^ 30 ∧ h.e < 10 ^ 30 ∧ h.t < 10 ^ 30 ∧ h.d < 10 ^ 30) → dueP k b (hs.map hdT) = none
  | [], k, b, _ => rfl
  | h :: hs, k, b, q => by
    obtain ⟨g, hz⟩ := q h List.mem_cons_self
    obtain ⟨i1, i2⟩ := han_row g hz
    rw [List.map_cons, dueP_cons]
    have w0 : wrongP (hdT h) b = 0 := by
      unfold wrongP
      rw [if_pos i1, ws_hd g, i2]
    rw [if_pos w0]
    exact due_hds hs _ _ fun x hx => q x (List.mem_cons_of_mem _ hx)
theorem Raw.big (w : Raw rows hds) : (∀ r ∈ rows, r.good ∧ ∀ t, r.i.tgt = some t → t < 10 ^ 30) ∧ ∀ h ∈ hds, h.good ∧ h.s < 10 ^ 30 ∧ h.e < 10 ^ 30 ∧ h.t < 10 ^ 30 ∧ h.d < 10 ^ 30 := by
  have hl := w.len
  refine ⟨fun r hr => ?_, fun h hm => ?_⟩
  · obtain ⟨j, hj⟩ := List.getElem?_of_mem hr
    exact ⟨w.good j r hj, fun t ht => by have := w.tgt j r hj t ht; omega⟩
  · obtain ⟨g, h1, h2, h3, h4⟩ := w.hd h hm
    exact ⟨g, by omega, by omega, by omega, by omega⟩
theorem due_wr (w : Raw rows hds) : dueP 0 false (rows.map rwT ++ hds.map hdT) = none := by
  rw [due_rows rows 0 _ w.big.1]
  exact due_hds hds _ _ w.big.2
theorem fil_rows (w : Raw rows hds) : (rows.map rwT ++ hds.map hdT).filter (fun r => !isH r) = rows.map rwT ∧ (rows.map rwT ++ hds.map hdT).filter isH = hds.map hdT := by
  have e1 : ∀ x ∈ rows.map rwT, isH x = false := fun x hx => by
    obtain ⟨r, hr, rfl⟩ := List.mem_map.mp hx
    exact (ins_row (w.big.1 r hr).1 (w.big.1 r hr).2).1
  have e2 : ∀ x ∈ hds.map hdT, isH x = true := fun x hx => by
    obtain ⟨r, hr, rfl⟩ := List.mem_map.mp hx
    exact (han_row (w.big.2 r hr).1 (w.big.2 r hr).2).1
  refine ⟨?_, ?_⟩
  · rw [List.filter_append, List.filter_eq_self.mpr fun x hx => by rw [e1 x hx]; rfl, List.filter_eq_nil_iff.mpr fun x hx => by rw [e2 x hx]; decide, List.append_nil]
  · rw [List.filter_append, List.filter_eq_nil_iff.mpr fun x hx => by rw [e1 x hx]; decide, List.filter_eq_self.mpr fun x hx => e2 x hx, List.nil_append]
theorem lists_wr (w : Raw rows hds) : codL (rows.map rwT ++ hds.map hdT) = pvs rows ∧ linL (rows.map rwT ++ hds.map hdT) = lns rows ∧ hanL (rows.map rwT ++ hds.map hdT) = hvs hds := by
  obtain ⟨f1, f2⟩ := fil_rows w
  have i1 : ∀ r ∈ rows, insP (wsOf (rwT r)) = (0, .int (r.l : Nat), r.i.pv) := fun r hr => by
    rw [ws_row (w.big.1 r hr).1]; exact (ins_row (w.big.1 r hr).1 (w.big.1 r hr).2).2
  have i2 : ∀ h ∈ hds, hanP (wsOf (hdT h)) = (0, h.pv) := fun r hr => by
    rw [ws_hd (w.big.2 r hr).1]; exact (han_row (w.big.2 r hr).1 (w.big.2 r hr).2).2
  unfold codL linL hanL
  rw [f1, f2, List.map_map, List.map_map, List.map_map]
  refine ⟨List.map_congr_left fun r hr => ?_, List.map_congr_left fun r hr => ?_, List.map_congr_left fun h hh => ?_⟩
  · show (insP (wsOf (rwT r))).2.2 = _
    rw [i1 r hr]
  · show (insP (wsOf (rwT r))).2.1 = _
    rw [i1 r hr]
  · show (hanP (wsOf (hdT h))).2 = _
    rw [i2 h hh]
/-- a written unit is read again -/
theorem read_wr (w : Raw rows hds) (hf : hds.length < 500) {u : PV} (hu : i_Unit_init [.con .lent .lst (pvs rows), .con .lent .lst (lns rows), .con .lent .lst (hvs hds)] = .ok u) (hc : clean u = true) : f_read [.str (wrT rows hds)] = .ok u := by
  have hl := w.len
  obtain ⟨l1, l2, l3⟩ := lists_wr w
  have len1 : ∀ y ∈ rows.map rwT ++ hds.map hdT, y.length ≤ 500 := fun y hy => by
    rcases List.mem_append.mp hy with h | h
    · obtain ⟨r, hr, rfl⟩ := List.mem_map.mp h
      exact rwT_len (w.rw_w r hr)
    · obtain ⟨x, hx, rfl⟩ := List.mem_map.mp h
      exact hdT_len (w.hd_w x hx)
  have len2 : (rows.map rwT ++ hds.map hdT).length < 1000 := by rw [List.length_append, List.length_map, List.length_map]; omega
  have len3 : (wrT rows hds).length ≤ 16000000 := by
    have := join_len (a := "\n") (k := 500) len1
    have h1 : ("\n" : Str).length = 1 := by decide
    rw [h1] at this
    unfold wrT
    omega
  rw [read_ok (r0 := .ok u) len3 (split_wr w) len2 (fun r hr => Nat.le_trans (len1 r hr) (by omega)) fun _ => ⟨by rw [l1, l2, l3]; exact hu, Or.inl ⟨u, rfl, hc⟩⟩]
  unfold readR
  rw [due_wr w]
end
end Law
/-! Tp2: the law's own rows. -/
namespace Law
open PySem PySem.Spec PyProof.Rows L2 Pv
/-- items of a row: numbers in range, texts, None for a handler of any kind -/
def itmW : PV → Option Str
  | .int i => if -(10 ^ 30) ≤ i ∧ i ≤ 10 ^ 30 then some (Str.ofString (toString i)) else none
  | .str w => some w
  | .non => some "any"
  | _ => none
theorem law_item_ok {x : PV} {w : Str} (h : itmW x = some w) : f_law_item [x] = .ok (.str w) ∧ clean x = true := by
  cases x with
  | int i =>
    have h : (if -(10 ^ 30) ≤ i ∧ i ≤ 10 ^ 30 then some (Str.ofString (toString i)) else none) = some w := h
    split at h
    · rename_i c
      cases h
      exact ⟨law_item_int c.1 c.2, rfl⟩
    · cases h
  | str z => cases h; exact ⟨law_item_str, rfl⟩
  | non => cases h; exact ⟨law_item_non, rfl⟩
  | _ => cases h
/-- a comprehension of items -/
theorem item_lc {Γ : Gam} {S : Sto} {t : EF} {m : Md} {k : Kd} {xs : List PV} {ws : List Str} (hk : k = .lst ∨ k = .tup) (he : t Γ S = .ok (.con m k xs) S) (hl : Γ.length = 13) (hw : xs.map itmW = ws.map some) (hz : xs.length < 1000) :
    eLc false (iAny t) (gN 12) (bYes) (eCallP f_law_item (aCons (eV 12) aNil)) [12] Γ S = .ok (.con .own .lst (ws.map PV.str)) S := by
  have hi : iAny t Γ S = .ok (stL (xs.map id), xs.length + 1) S := by
    rw [List.map_id]
    rcases hk with rfl | rfl
    · rw [iAny_eq, he, anyK_lst]
    · rw [iAny_eq, he, anyK_tup]
  have hx : ∀ x ∈ xs, ∃ w, itmW x = some w := fun x hx => by
    have : itmW x ∈ ws.map some := by rw [← hw]; exact List.mem_map_of_mem hx
    obtain ⟨w, _, e⟩ := List.mem_map.mp this
    exact ⟨w, e.symm⟩
  have := lcA_eq (mu := false) (Γ := Γ) (S := S) (gt := gN 12) (tt := bYes) (te := eCallP f_law_item (aCons (eV 12) aNil)) (is := [12]) (xs := xs) id (fun _ => true) (fun x => PV.str ((itmW x).getD "")) hi (fun i => rfl) (by omega)
    (fun x hm => by
      obtain ⟨w, e⟩ := hx x hm
      obtain ⟨f, c⟩ := law_item_ok e
      refine ⟨_, rfl, ⟨rfl, rfl⟩, fun _ => ?_⟩
      have q : ((wipeG Γ [12]).set 12 (some (id x)))[12]? = some (some x) := by simp [wipeG, hl]
      rw [e]
      exact Pv.W.clP (Pv.W.cons (Pv.W.var q (Pv.W.nil ⟨_, _, lends_ok (by simp only [List.mem_cons, List.not_mem_nil, or_false, forall_eq]; exact c), f, rfl, rfl⟩))))
  rw [this, List.filter_eq_self.mpr (by simp)]
  have e2 : (xs.map fun x => PV.str ((itmW x).getD "")) = ws.map PV.str := by
    have : (xs.map fun x => PV.str ((itmW x).getD "")) = (xs.map itmW).map fun o => PV.str (o.getD "") := by rw [List.map_map]; rfl
    rw [this, hw, List.map_map]
    rfl
  rw [e2]
  rfl
theorem itm_row {r : Rw} (g : r.good) (ht : ∀ t, r.i.tgt = some t → t < 10 ^ 30) : ([PV.int (r.l : Nat)] ++ its r.i).map itmW = (rwW r).map some := by
  have hl : r.l ≤ 1000000 := g.2
  have il : itmW (.int (r.l : Nat)) = some (Str.ofString (toString ((r.l : Nat) : Int))) := if_pos ⟨by omega, by omega⟩
  have key : (its r.i).map itmW = ((its r.i).map strW).map some := by
    obtain ⟨i, l⟩ := r
    have g : i.good := g.1
    cases i with
    | c n =>
      have : itmW (.int n) = some (Str.ofString (toString n)) := if_pos ⟨g.1, g.2⟩
      show [some ("const" : Str), itmW (.int n)] = _
      rw [this]; rfl
    | jp n =>
      have hn := ht n rfl
      have : itmW (.int (n : Nat)) = some (Str.ofString (toString ((n : Nat) : Int))) := if_pos ⟨by omega, by omega⟩
      show [some ("jump" : Str), itmW (.int (n : Nat))] = _
      rw [this]; rfl
    | ji n =>
      have hn := ht n rfl
      have : itmW (.int (n : Nat)) = some (Str.ofString (toString ((n : Nat) : Int))) := if_pos ⟨by omega, by omega⟩
      show [some ("jumpif" : Str), itmW (.int (n : Nat))] = _
      rw [this]; rfl
    | _ => rfl
  rw [List.map_append, key]
  show [itmW (.int (r.l : Nat))] ++ _ = _
  rw [il]
  rfl
def hits (h : Hnd) : List PV := [.int (h.s : Nat), .int (h.e : Nat), .int (h.t : Nat), .int (h.d : Nat), okP h.k]
theorem itm_hd {h : Hnd} (hz : h.s < 10 ^ 30 ∧ h.e < 10 ^ 30 ∧ h.t < 10 ^ 30 ∧ h.d < 10 ^ 30) : (hits h).map itmW = ((hdW h).drop 1).map some := by
  obtain ⟨h1, h2, h3, h4⟩ := hz
  have nm : ∀ {n : Nat}, n < 10 ^ 30 → itmW (.int (n : Nat)) = some (Str.ofString (toString ((n : Nat) : Int))) := fun {n} hn => if_pos ⟨by omega, by omega⟩
  show [itmW (.int (h.s : Nat)), itmW (.int (h.e : Nat)), itmW (.int (h.t : Nat)), itmW (.int (h.d : Nat)), itmW (okP h.k)] = _
  rw [nm h1, nm h2, nm h3, nm h4]
  obtain ⟨a, b, c, d, k⟩ := h
  cases k <;> rfl
abbrev g29 (sc : PV) (c l h : Nat) (N U : PV) (y6 y9 y10 y11 y12 : Option PV) (n : Nat) : Gam := [some sc, some (.ref 0), some (.ref c), some (.ref l), some (.ref h), some N, y6, some U, some (.ref n), y9, y10, y11, y12]
section
variable {rows : List Rw} {hds : List Hnd} {S : Sto} {sc N U : PV} {c l h n : Nat} {y6 y9 y10 y11 y12 : Option PV} {P : RS → Prop} {acc : List Str}
theorem row_turn (w : Raw rows hds) {k : Nat} {r : Rw} (hk : rows[k]? = some r) (hc : S[c]? = some (some (.lst, pvs rows))) (hl : S[l]? = some (some (.lst, lns rows))) (hn : S[n]? = some (some (.lst, acc.map PV.str))) (ha : acc.length ≤ 1000)
    (hP : P (.nx (g29 sc c l h N U (some (.int (k : Nat))) y9 y10 y11 y12 n) (S.set n (some (.lst, (acc ++ [rwT r]).map PV.str))))) : rsP (l1_law (g29 sc c l h N U (some (.int (k : Nat))) y9 y10 y11 y12 n) S) P := by
  have g := w.big.1 r (List.mem_of_getElem? hk)
  have i1 : ixF (.ref l) (.int (k : Nat)) S = some (.int (r.l : Nat), S) := ixR hl (lns_at hk)
  have i2 : ixF (.ref c) (.int (k : Nat)) S = some (r.i.pv, S) := ixR hc (pvs_at hk)
  have il := its_len r.i
  have ad : addF false (.con .own .tup [.int (r.l : Nat)]) r.i.pv S = some (.con .own .tup ([.int (r.l : Nat)] ++ its r.i), S) := by
    rw [pv_its]
    show (if [PV.int (r.l : Nat)] ≠ [] ∧ [PV.int (r.l : Nat)].length + (its r.i).length ≤ sizeLine then some (PV.con .own .tup ([PV.int (r.l : Nat)] ++ its r.i), S) else none) = _
    rw [if_pos ⟨by simp, by rw [sizeLine_eq]; simp; omega⟩]
  have et : eOp (addF false) (eTup (aCons (eOp ixF (eV 3) (eV 6)) aNil)) (eOp ixF (eV 2) (eV 6)) (g29 sc c l h N U (some (.int (k : Nat))) y9 y10 y11 y12 n) S = .ok (.con .own .tup ([.int (r.l : Nat)] ++ its r.i)) S :=
    okR.val (Pv.W.op (Pv.W.tup (Pv.W.cons (Pv.W.op (Pv.W.var rfl (Pv.W.var rfl ⟨_, _, i1, Pv.W.nil ⟨by rw [sizeLine_eq]; simp, Pv.W.op (Pv.W.var rfl (Pv.W.var rfl ⟨_, _, i2, _, _, ad, rfl, rfl⟩))⟩⟩))))))
  have lc := item_lc (Or.inr rfl) et rfl (itm_row g.1 g.2) (by rw [List.length_append]; simp; omega)
  have w1 := w.rw_w r (List.mem_of_getElem? hk)
  have jn := joinF_ok (S := S) (m := .own) (a := " ") (ys := rwW r) (k := 40) rfl (fun y hy => by
    rcases List.mem_cons.mp hy with rfl | hy
    · exact w1.l.2
    · obtain ⟨x, hx, rfl⟩ := List.mem_map.mp hy
      exact strW_len (w1.i x hx)) (by
      have h2 : (rwW r).length ≤ 3 := by unfold rwW; rw [List.length_cons, List.length_map]; omega
      have h1 : (" " : Str).length = 1 := by decide
      rw [h1]; omega)
  unfold l1_law
  generalize eLc false (iAny (eOp (addF false) (eTup (aCons (eOp ixF (eV 3) (eV 6)) aNil)) (eOp ixF (eV 2) (eV 6)))) (gN 12) (bYes) (eCallP f_law_item (aCons (eV 12) aNil)) [12] = T at lc ⊢
  refine Pv.W.expr (Pv.W.meth (Pv.W.var rfl ⟨tyL hn, Pv.W.cons (Pv.W.meth (Pv.W.con ⟨rfl, cons_of lc (Pv.W.nil ⟨_, _, jn, Pv.W.nil ⟨_, _, appF hn (by rw [List.length_map]; omega), ?_⟩⟩)⟩))⟩))
  rw [List.map_append] at hP
  exact hP
theorem hnd_turn (w : Raw rows hds) {x : Hnd} (hx : x ∈ hds) (hn : S[n]? = some (some (.lst, acc.map PV.str))) (ha : acc.length ≤ 1000)
    (hP : P (.nx (g29 sc c l h N U y6 (some x.pv) y10 y11 y12 n) (S.set n (some (.lst, (acc ++ [hdT x]).map PV.str))))) : rsP (l2_law (g29 sc c l h N U y6 (some x.pv) y10 y11 y12 n) S) P := by
  have g := w.big.2 x hx
  have et : eV 9 (g29 sc c l h N U y6 (some x.pv) y10 y11 y12 n) S = .ok (.con .own .tup (hits x)) S := rfl
  have lc := item_lc (Or.inr rfl) et rfl (itm_hd g.2) (by show 5 < 1000; omega)
  have w1 := w.hd_w x hx
  have jn := joinF_ok (S := S) (m := .own) (a := " ") (ys := hdW x) (k := 40) rfl (fun y hy => by
    have h3 : ("handler" : Str).length = 7 := by decide
    unfold hdW at hy
    simp only [List.mem_cons, List.not_mem_nil, or_false] at hy
    rcases hy with rfl | rfl | rfl | rfl | rfl | rfl
    · omega
    · exact w1.s.2
    · exact w1.e.2
    · exact w1.t.2
    · exact w1.d.2
    · exact w1.k) (by
      have h2 : (hdW x).length = 6 := rfl
      have h1 : (" " : Str).length = 1 := by decide
      rw [h1]; omega)
  have ad : addF false (.con .own .lst [.str "handler"]) (.con .own .lst (((hdW x).drop 1).map PV.str)) S = some (.con .own .lst ((hdW x).map PV.str), S) := by
    rw [addF_lst (m := false) (by decide) (by decide) (by show 1 + 5 ≤ _; omega)]
    rfl
  unfold l2_law
  generalize eLc false (iAny (eV 9)) (gN 12) (bYes) (eCallP f_law_item (aCons (eV 12) aNil)) [12] = T at lc ⊢
  refine Pv.W.expr (Pv.W.meth (Pv.W.var rfl ⟨tyL hn, Pv.W.cons (Pv.W.meth (Pv.W.con ⟨rfl, Pv.W.cons (Pv.W.op (Pv.W.lstF (Pv.W.cons (Pv.W.con (Pv.W.nil ⟨by rw [sizeLine_eq]; simp, okR.of lc ⟨_, _, ad, Pv.W.nil ⟨_, _, jn, Pv.W.nil ⟨_, _, appF hn (by rw [List.length_map]; omega), ?_⟩⟩⟩⟩)))))⟩))⟩))
  rw [List.map_append] at hP
  exact hP
end
end Law
/-! Pa: rows changed one after the other (plain). -/
namespace Law
open PySem PySem.Spec PyProof.Rows L2 Pv
section
variable {rows : List Rw} {hds : List Hnd}
/-- the first k rows changed -/
def part (new : Nat → Rw → Rw) (rows : List Rw) (k : Nat) : List Rw := rows.mapIdx fun i r => if i < k then new i r else r
theorem part_0 {new : Nat → Rw → Rw} : part new rows 0 = rows := by
  refine List.ext_getElem? fun j => ?_
  unfold part
  rw [List.getElem?_mapIdx]
  cases rows[j]? <;> rfl
theorem part_n {new : Nat → Rw → Rw} : part new rows rows.length = rows.mapIdx new := by
  refine List.ext_getElem? fun j => ?_
  unfold part
  rw [List.getElem?_mapIdx, List.getElem?_mapIdx]
  cases h : rows[j]? with
  | none => rfl
  | some r =>
    have := (List.getElem?_eq_some_iff.mp h).1
    simp [this]
theorem part_set {new : Nat → Rw → Rw} {k : Nat} {r : Rw} (h : rows[k]? = some r) : (pvs (part new rows k)).set k (new k r).i.pv = pvs (part new rows (k + 1)) := by
  refine List.ext_getElem? fun j => ?_
  have hk := (List.getElem?_eq_some_iff.mp h).1
  unfold pvs part
  rw [List.getElem?_set, List.getElem?_map, List.getElem?_map, List.getElem?_mapIdx, List.getElem?_mapIdx]
  split
  · rename_i e
    subst e
    rw [if_pos (by simp; exact hk), h]
    simp
  · rename_i e
    cases h2 : rows[j]? with
    | none => rfl
    | some r2 =>
      have : (j < k) = (j < k + 1) := by simp; omega
      simp only [Option.map_some, this]
theorem part_same {new : Nat → Rw → Rw} {k : Nat} {r : Rw} (h : rows[k]? = some r) (e : new k r = r) : part new rows k = part new rows (k + 1) := by
  refine List.ext_getElem? fun j => ?_
  unfold part
  rw [List.getElem?_mapIdx, List.getElem?_mapIdx]
  cases h2 : rows[j]? with
  | none => rfl
  | some r2 =>
    by_cases c : j = k
    · subst c
      rw [h] at h2
      cases h2
      simp [e]
    · have : (j < k) = (j < k + 1) := by simp; omega
      simp only [Option.map_some, this]
theorem part_len {new : Nat → Rw → Rw} {k : Nat} : (part new rows k).length = rows.length := List.length_mapIdx
theorem lns_idx {new : Nat → Rw → Rw} (h : ∀ k r, (new k r).l = r.l) : lns (rows.mapIdx new) = lns rows := by
  refine List.ext_getElem? fun j => ?_
  unfold lns
  rw [List.getElem?_map, List.getElem?_map, List.getElem?_mapIdx]
  cases rows[j]? with
  | none => rfl
  | some r => simp [h]
end
end Law
/-! Frf: a for over a changing list that stays meanwhile. -/
namespace Pv
open PySem PySem.Spec PyProof.Rows L2
theorem forRf_aux {α : Type} {gt : GF} {t : SF} {P : RS → Prop} {r : Nat} {xs : List α} (g : α → PV) (J : List α → List α → Gam → Sto → Prop) (keep : ∀ d rest Γ S, J d rest Γ S → S[r]? = some (some (.lst, xs.map g)))
    (step : ∀ d x rest Γ S, J d (x :: rest) Γ S → ∃ Γ1 S1, gt (g x) Γ S = .ok Γ1 S1 ∧ rsP (t Γ1 S1) fun q => Trn q (J (d ++ [x]) rest) P) (done : ∀ d Γ S, J d [] Γ S → rsP (.nx Γ S) P) : ∀ (rest d : List α) (Γ : Gam) (S : Sto), d ++ rest = xs → J d rest Γ S → rsP (forI (stR r) (sTurn gt t) (rest.length + 1) d.length Γ S) P
  | [], d, Γ, S, e, j => by
    have e0 : stR r S d.length = some none := by
      unfold stR
      rw [keep _ _ _ _ j]
      show some ((xs.map g)[d.length]?) = _
      rw [← e]
      simp
    unfold forI
    rw [e0]
    exact done d Γ S j
  | x :: rest, d, Γ, S, e, j => by
    have e0 : stR r S d.length = some (some (g x)) := by
      unfold stR
      rw [keep _ _ _ _ j]
      show some ((xs.map g)[d.length]?) = _
      rw [← e]
      simp
    obtain ⟨Γ1, S1, e1, q⟩ := step d x rest Γ S j
    have ih := fun Γ S => forRf_aux g J keep step done rest (d ++ [x]) Γ S (by rw [← e]; simp)
    rw [List.length_append, List.length_singleton] at ih
    have et : sTurn gt t (g x) Γ S = t Γ1 S1 := by unfold sTurn; rw [e1]; rfl
    show rsP (forI (stR r) (sTurn gt t) (rest.length + 1 + 1) d.length Γ S) P
    unfold forI
    rw [e0]
    show rsP (match sTurn gt t (g x) Γ S with
      | .nx Γ1 S1 => forI (stR r) (sTurn gt t) (rest.length + 1) (d.length + 1) Γ1 S1
      | .ct Γ1 S1 => forI (stR r) (sTurn gt t) (rest.length + 1) (d.length + 1) Γ1 S1
      | .bk Γ1 S1 => .nx Γ1 S1
      | r => r) P
    rw [et]
    unfold rsP at q ih ⊢
    cases h : t Γ1 S1 <;> rw [h] at q <;> first | exact ih _ _ q | exact q | exact q.elim
/-- a for over a changing list that stays as it is meanwhile -/
theorem W.forRf {α : Type} {gt : GF} {t : SF} {Γ : Gam} {S : Sto} {P : RS → Prop} {j r : Nat} {xs : List α} (g : α → PV) (J : List α → List α → Gam → Sto → Prop) (hj : Γ[j]? = some (some (.ref r))) (keep : ∀ d rest Γ S, J d rest Γ S → S[r]? = some (some (.lst, xs.map g)))
    (step : ∀ d x rest Γ S, J d (x :: rest) Γ S → ∃ Γ1 S1, gt (g x) Γ S = .ok Γ1 S1 ∧ rsP (t Γ1 S1) fun q => Trn q (J (d ++ [x]) rest) P) (done : ∀ d Γ S, J d [] Γ S → rsP (.nx Γ S) P) (h : J [] xs Γ S) : rsP (sFor (iAny (eV j)) gt t Γ S) P := by
  have hr := keep _ _ _ _ h
  have e0 : iAny (eV j) Γ S = .ok (stR r, xs.length + 1) S := by
    have : eV j Γ S = .ok (.ref r) S := by unfold eV; rw [hj]
    unfold iAny
    rw [this]
    show (match walkB S (.ref r) with | some q => R.ok q S | none => .bad) = _
    unfold walkB
    simp only [hr, Option.join_some, List.length_map]
  rw [sFor_eq, e0, forK_ok]
  exact forRf_aux g J keep step done xs [] Γ S rfl h
end Pv
/-! Pure29: law k29. -/
namespace Law
open PySem PySem.Spec PyProof.Rows L2 Pv
theorem words_of : ∀ {vs : List PV}, (∀ v ∈ vs, ∃ w, v = .str w ∧ WdOk w) → ∃ ws : List Str, vs = ws.map PV.str ∧ ∀ w ∈ ws, WdOk w
  | [], _ => ⟨[], rfl, by simp⟩
  | v :: vs, h => by
    obtain ⟨w, rfl, p⟩ := h v List.mem_cons_self
    obtain ⟨ws, rfl, q⟩ := words_of (vs := vs) fun u hu => h u (List.mem_cons_of_mem _ hu)
    exact ⟨w :: ws, rfl, fun u hu => by
      rcases List.mem_cons.mp hu with z | z
      · subst z; exact p
      · exact q u z⟩
abbrev h29 (sc : PV) (c l h : Nat) (N : PV) (y6 : Option PV) : Gam := [some sc, some (.ref 0), some (.ref c), some (.ref l), some (.ref h), some N, y6, none, none, none, none, none, none]
section
variable {rows : List Rw} {hds : List Hnd} {D : Nat → Nat} {S : Sto} {sc : PV} {c l h : Nat} {nw : List Str}
theorem abc_ix {w : Str} (ha : w ∈ (["a", "b", "c"] : List Str)) (hl : nw.length = 3) {S : Sto} : ∃ j : Nat, lindexF (.con .own .lst [.str "a", .str "b", .str "c"]) [.str w] S = some (.int (j : Nat), S) ∧ ixF (.con .own .lst (nw.map PV.str)) (.int (j : Nat)) S = some (.str (nmW nw w), S) := by
  obtain ⟨x, y, z, rfl⟩ : ∃ x y z, nw = [x, y, z] := by
    match nw, hl with
    | [x, y, z], _ => exact ⟨x, y, z, rfl⟩
  simp only [List.mem_cons, List.not_mem_nil, or_false] at ha
  have cs : ∀ v : Str, (v = "a" → nmW [x, y, z] v = x) ∧ (v = "b" → nmW [x, y, z] v = y) ∧ (v = "c" → nmW [x, y, z] v = z) := fun v => ⟨fun e => by subst e; rfl, fun e => by subst e; rfl, fun e => by subst e; rfl⟩
  rcases ha with rfl | rfl | rfl
  · exact ⟨0, rfl, rfl⟩
  · exact ⟨1, rfl, rfl⟩
  · exact ⟨2, rfl, rfl⟩
theorem ren_turn {k : Nat} {r : Rw} (hk : rows[k]? = some r) (ha : r.i.abc) (hl : nw.length = 3) (hc : S[c]? = some (some (.lst, pvs (part (renR nw) rows k)))) {P : RS → Prop}
    (hP : P (.nx (h29 sc c l h (.con .own .lst (nw.map PV.str)) (some (.int (k : Nat)))) (S.set c (some (.lst, pvs (part (renR nw) rows (k + 1))))))) : rsP (l0_law (h29 sc c l h (.con .own .lst (nw.map PV.str)) (some (.int (k : Nat)))) S) P := by
  have hk2 := (List.getElem?_eq_some_iff.mp hk).1
  have hp : (part (renR nw) rows k)[k]? = some r := by
    unfold part
    rw [List.getElem?_mapIdx, hk]
    simp
  have ic : ixF (.ref c) (.int (k : Nat)) S = some (r.i.pv, S) := ixR hc (pvs_at hp)
  have pl : (pvs (part (renR nw) rows k)).length = rows.length := by unfold pvs; rw [List.length_map, part_len]
  have ps := part_set (new := renR nw) hk
  have set_ : setLF (.ref c) (.int (k : Nat)) (ren nw r.i).pv S = some (S.set c (some (.lst, pvs (part (renR nw) rows (k + 1))))) := by
    rw [setF (j := k) hc (by rw [pl]; exact hk2)]
    rw [← ps]
    rfl
  have same : renR nw k r = r → S.set c (some (.lst, pvs (part (renR nw) rows (k + 1)))) = S := fun e => by
    rw [← part_same hk e]
    refine List.ext_getElem? fun j => ?_
    rw [List.getElem?_set]
    by_cases z : c = j
    · subst z
      rw [if_pos rfl, if_pos (List.getElem?_eq_some_iff.mp hc).1, hc]
    · rw [if_neg z]
  have inl : ∀ S, inF (.str (nm r.i)) (.con .own .tup [.str "load", .str "store"]) S = some (.bl (decide (nm r.i ∈ (["load", "store"] : List Str))), S) := fun S => inF_strs (Or.inr rfl) (nm r.i) ["load", "store"]
  have i0 : ∀ S, ixF r.i.pv (.int 0) S = some (.str (nm r.i), S) := fun S => ixF_nm r.i
  unfold l0_law
  refine Pv.W.ite (Pv.W.bE (Pv.W.op (Pv.W.op (Pv.W.op (Pv.W.var rfl (Pv.W.var rfl ⟨_, _, ic, Pv.W.con ⟨_, _, i0 _, Pv.W.tup (Pv.W.cons (Pv.W.con (Pv.W.cons (Pv.W.con (Pv.W.nil ⟨by rw [sizeLine_eq]; simp, _, _, inl _, _, rfl, Pv.W.kD (fun q => ?_) fun q => ?_⟩)))))⟩⟩))))))
  · have key : ∀ (wd w : Str), w ∈ (["a", "b", "c"] : List Str) → r.i.pv = .con .own .tup [.str wd, .str w] → (ren nw r.i).pv = .con .own .tup [.str wd, .str (nmW nw w)] → rsP (sAsg (eTup (aCons (eOp ixF (eOp ixF (eV 2) (eV 6)) (eC (.int 0))) (aCons (eOp ixF (eV 5) (eM "list" lindexF (eLst false (aCons (eC (.str "a")) (aCons (eC (.str "b")) (aCons (eC (.str "c")) aNil)))) (aCons (eOp ixF (eOp ixF (eV 2) (eV 6)) (eC (.int 1))) aNil))) aNil))) (gSubF setLF (eV 2) (eV 6)) (h29 sc c l h (.con .own .lst (nw.map PV.str)) (some (.int (k : Nat)))) S) P := fun wd w hw e1 e2 => by
      rw [e1] at ic
      rw [e2] at set_
      obtain ⟨j, q1, q2⟩ := abc_ix (nw := nw) hw hl (S := S)
      have x0 : ∀ S, ixF (.con .own .tup [.str wd, .str w]) (.int 0) S = some (.str wd, S) := fun S => rfl
      have x1 : ∀ S, ixF (.con .own .tup [.str wd, .str w]) (.int 1) S = some (.str w, S) := fun S => rfl
      refine Pv.W.asg (Pv.W.tup (Pv.W.cons (Pv.W.op (Pv.W.op (Pv.W.var rfl (Pv.W.var rfl ⟨_, _, ic, Pv.W.con ⟨_, _, x0 _, ?_⟩⟩))))))
      refine Pv.W.cons (Pv.W.op (Pv.W.var rfl (Pv.W.meth (Pv.W.lstF (Pv.W.cons (Pv.W.con (Pv.W.cons (Pv.W.con (Pv.W.cons (Pv.W.con (Pv.W.nil ⟨by rw [sizeLine_eq]; simp, rfl, ?_⟩)))))))))))
      refine Pv.W.cons (Pv.W.op (Pv.W.op (Pv.W.var rfl (Pv.W.var rfl ⟨_, _, ic, Pv.W.con ⟨_, _, x1 _, Pv.W.nil ⟨_, _, q1, _, _, q2, Pv.W.nil ⟨by rw [sizeLine_eq]; simp, ?_⟩⟩⟩⟩))))
      exact Pv.W.gSub (Pv.W.var rfl (Pv.W.var rfl ⟨_, set_, hP⟩))
    obtain ⟨i, ln⟩ := r
    cases i with
    | ld w => exact key "load" w ha rfl rfl
    | sto w => exact key "store" w ha rfl rfl
    | op o =>
      have z : ∀ o : Opc, ¬ o.name ∈ (["load", "store"] : List Str) := fun o => by cases o <;> decide +kernel
      exact absurd q (z o)
    | c n => exact absurd (show ("const" : Str) ∈ (["load", "store"] : List Str) from q) (by decide +kernel)
    | fl n => exact absurd (show ("fail" : Str) ∈ (["load", "store"] : List Str) from q) (by decide +kernel)
    | jp n => exact absurd (show ("jump" : Str) ∈ (["load", "store"] : List Str) from q) (by decide +kernel)
    | ji n => exact absurd (show ("jumpif" : Str) ∈ (["load", "store"] : List Str) from q) (by decide +kernel)
  · refine Pv.W.next ?_
    have e : renR nw k r = r := by
      obtain ⟨i, ln⟩ := r
      cases i with
      | ld w => exact absurd (show nm (.ld w) ∈ (["load", "store"] : List Str) by show ("load" : Str) ∈ _; decide +kernel) q
      | sto w => exact absurd (show nm (.sto w) ∈ (["load", "store"] : List Str) by show ("store" : Str) ∈ _; decide +kernel) q
      | _ => rfl
    rw [same e] at hP
    exact hP
end
/-- what the law keeps while it lays the rows -/
structure St29 (rows : List Rw) (hds : List Hnd) (c l h n : Nat) (acc : List Str) (S : Sto) : Prop where
  fc : S[c]? = some (some (.lst, pvs rows))
  fl : S[l]? = some (some (.lst, lns rows))
  fh : S[h]? = some (some (.lst, hvs hds))
  fn : S[n]? = some (some (.lst, acc.map PV.str))
  fo : n ≠ c ∧ n ≠ l ∧ n ≠ h
theorem St29.put {rows : List Rw} {hds : List Hnd} {c l h n : Nat} {acc acc' : List Str} {S : Sto} (s : St29 rows hds c l h n acc S) : St29 rows hds c l h n acc' (S.set n (some (.lst, acc'.map PV.str))) := by
  obtain ⟨o1, o2, o3⟩ := s.fo
  exact ⟨by rw [List.getElem?_set_ne o1]; exact s.fc, by rw [List.getElem?_set_ne o2]; exact s.fl, by rw [List.getElem?_set_ne o3]; exact s.fh, List.getElem?_set_self (List.getElem?_eq_some_iff.mp s.fn).1, s.fo⟩
section
variable {rows : List Rw} {hds : List Hnd} {D : Nat → Nat} {S : Sto} {sc N : PV} {c l h n : Nat} {ds : List (Option Nat)}
theorem r4_29 (w : Raw rows hds) (hf : hds.length < 500) (un : i_Unit_init [.con .lent .lst (pvs rows), .con .lent .lst (lns rows), .con .lent .lst (hvs hds)] = .ok (uT .own .own rows hds (depP ds))) (s : St29 rows hds c l h n (rows.map rwT ++ hds.map hdT) S) {y6 y9 : Option PV} :
    rsP (r4_law (g29 sc c l h N (uT .own .own rows hds (depP ds)) y6 y9 none none none n) S) fun r => ∃ u S, r = .rt u S ∧ resP S u = .ok (.bl true) := by
  have cu : clean (uT .own .own rows hds (depP ds)) = true := unit_cl w.vals (ml := .own) (mh := .own) (by decide) (by decide) ds
  have hl := w.len
  have wr := write_ok (d := depP ds) w.rw_w w.hd_w hl (by omega)
  have rd := read_wr w hf un cu
  have len1 : ∀ y ∈ rows.map rwT ++ hds.map hdT, y.length ≤ 500 := fun y hy => by
    rcases List.mem_append.mp hy with h | h
    · obtain ⟨r, hr, rfl⟩ := List.mem_map.mp h
      exact rwT_len (w.rw_w r hr)
    · obtain ⟨x, hx, rfl⟩ := List.mem_map.mp h
      exact hdT_len (w.hd_w x hx)
  have jn := joinF_d (S := S) (p := .ref n) (a := "\n") (ys := rows.map rwT ++ hds.map hdT) (k := 500) (by show S[n]?.join = _; rw [s.fn]; rfl) len1 (by
    have h1 : ("\n" : Str).length = 1 := by decide
    rw [h1, List.length_append, List.length_map, List.length_map]
    omega)
  have eT : Txt.join "\n" (rows.map rwT ++ hds.map hdT) = wrT rows hds := rfl
  rw [eT] at jn
  have lu : [uT .own .own rows hds (depP ds)].mapM (lendV S) = some [uT .own .own rows hds (depP ds)] := lends_ok (by simp only [List.mem_cons, List.not_mem_nil, or_false, forall_eq]; exact cu)
  obtain ⟨b, eb, hb2⟩ := unitEq (S := S) cu cu
  have hbt : b = true := hb2.mpr ⟨rfl, rfl⟩
  rw [hbt] at eb
  have eb : eqF2 "Unit" f_Unit_eq (uT .own .own rows hds (depP ds)) (uT .own .own rows hds (depP ds)) S = some (.bl true, S) := eb
  have iso : isoF "Unit" [uT .own .own rows hds (depP ds), .fn "Unit"] S = some (.bl true, S) := rfl
  generalize hU : uT .own .own rows hds (depP ds) = U at *
  generalize wrT rows hds = T at *
  unfold r4_law
  generalize hR3 : r3_law = R3
  refine Pv.W.seq (Pv.W.set (Pv.W.clP (Pv.W.cons (Pv.W.var rfl (Pv.W.nil ⟨_, _, lu, wr, Pv.W.go ?_⟩)))))
  refine Pv.W.seq (Pv.W.ite (Pv.W.or (Pv.W.not (Pv.W.bT (Pv.W.call (Pv.W.cons (Pv.W.var rfl (Pv.W.cons (Pv.W.con (Pv.W.nil ⟨_, _, rfl, true, rfl, ?_⟩))))))))))
  refine Pv.W.kF ?_
  refine Pv.W.bE (Pv.W.op (Pv.W.var rfl (Pv.W.meth (Pv.W.con ⟨rfl, Pv.W.cons (Pv.W.var rfl (Pv.W.nil ⟨_, _, jn, _, _, neF_str, _, rfl, ?_⟩))⟩))))
  refine Pv.W.kNF rfl ?_
  refine Pv.W.next (Pv.W.go ?_)
  subst hR3
  unfold r3_law
  have lt : [PV.str T].mapM (lendV S) = some [.str T] := rfl
  refine Pv.W.seq (Pv.W.set (Pv.W.clP (Pv.W.cons (Pv.W.var rfl (Pv.W.nil ⟨_, _, lt, rd, Pv.W.go ?_⟩)))))
  refine Pv.W.ret (Pv.W.eAnd (Pv.W.call (Pv.W.cons (Pv.W.var rfl (Pv.W.cons (Pv.W.con (Pv.W.nil ⟨_, _, iso, true, rfl, Pv.W.kT ?_⟩)))))))
  refine Pv.W.eAnd (Pv.W.op (Pv.W.var rfl (Pv.W.var rfl ⟨_, _, eb, true, rfl, Pv.W.kT ?_⟩)))
  refine Pv.W.op (Pv.W.clP (Pv.W.cons (Pv.W.var rfl (Pv.W.nil ⟨_, _, lu, wr, Pv.W.var rfl ⟨_, _, eqF_str, ?_⟩⟩))))
  exact ⟨_, _, rfl, by rw [decide_eq_true rfl]; rfl⟩
theorem tail29 (t : Tidy rows hds D) (hf : hds.length < 500) (hc : S[c]? = some (some (.lst, pvs rows))) (hl : S[l]? = some (some (.lst, lns rows))) (hh : S[h]? = some (some (.lst, hvs hds))) {y6 : Option PV} :
    rsP (r6_law (h29 sc c l h N y6) S) fun r => ∃ u S, r = .rt u S ∧ resP S u = .ok (.bl true) := by
  obtain ⟨ds, top, hld⟩ := t.top
  have un := t.raw.made top (m1 := .lent) (m2 := .lent) (m3 := .lent) (k1 := .lst) (k2 := .lst) (k3 := .lst) (Or.inl rfl) (Or.inl rfl) (Or.inl rfl) rfl rfl rfl
  have lm := lend3 hc hl hh
  have w := t.raw
  have hlen := w.len
  have lS : c < S.length ∧ l < S.length ∧ h < S.length := ⟨(List.getElem?_eq_some_iff.mp hc).1, (List.getElem?_eq_some_iff.mp hl).1, (List.getElem?_eq_some_iff.mp hh).1⟩
  unfold r6_law
  generalize hR5 : r5_law = R5
  generalize hF : sFor (iR1 (aCons (eCall lenF (aCons (eV 2) aNil)) aNil)) (gN 6) l1_law = F
  refine Pv.W.seq (Pv.W.set (Pv.W.make (Pv.W.cons (Pv.W.var rfl (Pv.W.cons (Pv.W.var rfl (Pv.W.cons (Pv.W.var rfl (Pv.W.nil ⟨rfl, _, _, lm, un, Pv.W.go ?_⟩)))))))))
  refine Pv.W.seq (Pv.W.set (Pv.W.lstT (Pv.W.nil ⟨by rw [sizeLine_eq]; simp, Pv.W.go ?_⟩)))
  have s0 : St29 rows hds c l h S.length [] (S ++ [some (.lst, [])]) := ⟨app_get hc, app_get hl, app_get hh, app_new rfl, by omega, by omega, by omega⟩
  generalize S ++ [some (Kd.lst, ([] : List PV))] = S1 at s0 ⊢
  generalize S.length = n at s0 ⊢
  have pl : (pvs rows).length = rows.length := List.length_map _
  refine Pv.W.seq ?_
  subst hF
  refine Pv.W.forR (Pv.W.cons (Pv.W.call (Pv.W.cons (Pv.W.var rfl (Pv.W.nil ⟨_, _, lenF_ref s0.fc, Pv.W.nil ⟨_, rfl, by rw [pl]; omega, ?_⟩⟩)))))
  rw [pl]
  refine Pv.W.turns (fun k : Nat => PV.int (k : Nat)) (fun d r Γ S => d ++ r = List.range rows.length ∧ (∃ y6, Γ = g29 sc c l h N (uT .own .own rows hds (depP ds)) y6 none none none none n) ∧ St29 rows hds c l h n ((rows.take d.length).map rwT) S) ?_ ?_ ⟨rfl, ⟨_, rfl⟩, s0⟩
  · rintro dn k r Γ S2 ⟨e, ⟨y6, rfl⟩, s⟩
    refine ⟨_, _, rfl, ?_⟩
    obtain ⟨hk, hkl⟩ : k = dn.length ∧ k < rows.length := by
      have a1 := congrArg (fun l => l[dn.length]?) e
      simp only [List.getElem?_append_right (Nat.le_refl _), Nat.sub_self, List.getElem?_cons_zero] at a1
      have a2 : dn.length < rows.length := by have := congrArg List.length e; simp at this; omega
      rw [List.getElem?_range a2] at a1
      exact ⟨Option.some.inj a1, by have := Option.some.inj a1; omega⟩
    obtain ⟨r0, hr0⟩ : ∃ r0, rows[k]? = some r0 := ⟨rows[k], List.getElem?_eq_getElem hkl⟩
    refine row_turn w hr0 s.fc s.fl s.fn (by rw [List.length_map, List.length_take]; omega) ?_
    refine ⟨by rw [List.append_assoc]; exact e, ⟨_, rfl⟩, ?_⟩
    have e2 : (rows.take dn.length).map rwT ++ [rwT r0] = (rows.take (dn ++ [k]).length).map rwT := by
      rw [List.length_append, ← hk, List.length_singleton, List.take_succ, hr0, List.map_append]
      rfl
    rw [e2]
    exact s.put
  · rintro dn Γ S2 ⟨e, ⟨y6, rfl⟩, s⟩
    rw [List.append_nil] at e
    have hd : dn.length = rows.length := by rw [e, List.length_range]
    rw [hd, List.take_length] at s
    subst hR5
    refine Pv.W.go ?_
    unfold r5_law
    generalize hR4 : r4_law = R4
    refine Pv.W.seq ?_
    refine Pv.W.forRf (r := h) (xs := hds) Hnd.pv (fun d r Γ S => d ++ r = hds ∧ (∃ y9, Γ = g29 sc c l h N (uT .own .own rows hds (depP ds)) y6 y9 none none none n) ∧ St29 rows hds c l h n (rows.map rwT ++ d.map hdT) S) rfl (fun d r Γ S j => j.2.2.fh) ?_ ?_ ⟨rfl, ⟨_, rfl⟩, by rw [List.map_nil, List.append_nil]; exact s⟩
    · rintro d x r Γ S3 ⟨e3, ⟨y9, rfl⟩, s3⟩
      refine ⟨_, _, rfl, ?_⟩
      have hx : x ∈ hds := by rw [← e3]; simp
      have hdl : d.length ≤ hds.length := by rw [← e3, List.length_append]; omega
      refine hnd_turn w hx s3.fn (by rw [List.length_append, List.length_map, List.length_map]; omega) ?_
      refine ⟨by rw [List.append_assoc]; exact e3, ⟨_, rfl⟩, ?_⟩
      have e4 : rows.map rwT ++ d.map hdT ++ [hdT x] = rows.map rwT ++ (d ++ [x]).map hdT := by rw [List.map_append, List.append_assoc]; rfl
      rw [e4]
      exact s3.put
    · rintro d Γ S3 ⟨e3, ⟨y9, rfl⟩, s3⟩
      rw [List.append_nil] at e3
      subst e3
      subst hR4
      exact Pv.W.go (r4_29 w hf un s3)
end
theorem pure_law (ns : List Int) (hns : ns.length ≤ 63) : f_law [scr ns] = .ok (.bl true) := by
  refine Pv.W.rdP rfl ?_
  show rsP (body_law [some (scr ns), none, none, none, none, none, none, none, none, none, none, none, none] []) _
  have hb := begin_ok ns [] hns
  have d0 : DR 0 ns [drO ns 0 0 7] := ⟨0, 0, 7, rfl, by omega⟩
  unfold body_law
  refine Pv.W.seq (Pv.W.set (Pv.W.callW (Pv.W.cons (Pv.W.var rfl (Pv.W.nil ?_)))))
  refine okR.of hb ?_
  refine Pv.W.go (Pv.W.seq (Pv.W.asg (Pv.W.callW (Pv.W.cons (Pv.W.var rfl (Pv.W.nil ?_))))))
  refine okR.mono (parts_ok d0 (Nat.lt_succ_self 0)) ?_
  rintro v S ⟨rows, hds, c, l, h, z, rfl, hz, hc, hl, hh, d2, pr, o1, o2, o3, o4, o5, hq, hB, hS0, hfr⟩
  refine okR.of (gUr hz) ?_
  have sm : Small rows hds := ⟨pr, hq, hB⟩
  obtain ⟨D, t⟩ := sm.neat
  have habc : ∀ (k : Nat) (r : Rw), rows[k]? = some r → r.i.abc := fun k r hr => by
    obtain ⟨D, _, sg⟩ := sm.pr.dep
    exact (sg.row k r hr).abc
  have hlen := t.raw.len
  refine Pv.W.go ?_
  generalize hR6 : r6_law = R6
  generalize hF : sFor (iR1 (aCons (eCall lenF (aCons (eV 2) aNil)) aNil)) (gN 6) l0_law = F
  refine Pv.W.seq (Pv.W.set (Law.W.lcDrawF (fun S' => DR 0 ns S' ∧ S'.length = S.length ∧ ∀ i, i ≠ 0 → S'[i]? = S[i]?) (fun v => ∃ w, v = .str w ∧ WdOk w) (m := 3) ?_))
  refine Pv.W.cons (Pv.W.con (Pv.W.nil ⟨rfl, by omega, ⟨d2, rfl, fun _ _ => rfl⟩, ?_, ?_⟩))
  · rintro x S1 ⟨d3, n3, f3⟩
    refine Pv.W.callW (Pv.W.cons (Pv.W.var rfl (Pv.W.nil ?_)))
    obtain ⟨w, S2, e, iw, d4, fr⟩ := word_ok d3
    exact okR.of e ⟨⟨d4, fr.1.trans n3, fun i hi => (fr.2 i hi).trans (f3 i hi)⟩, w, rfl, iw⟩
  intro vs S1 hS1 hws hv3
  obtain ⟨d3, n3, f3⟩ := hS1
  obtain ⟨nw, rfl, hnw⟩ := words_of hws
  rw [List.length_map] at hv3
  have hc1 : S1[c]? = some (some (.lst, pvs rows)) := by rw [f3 c (by omega)]; exact hc
  have hl1 : S1[l]? = some (some (.lst, lns rows)) := by rw [f3 l (by omega)]; exact hl
  have hh1 : S1[h]? = some (some (.lst, hvs hds)) := by rw [f3 h (by omega)]; exact hh
  refine Pv.W.go (Pv.W.seq ?_)
  subst hF
  have pl : (pvs rows).length = rows.length := List.length_map _
  refine Pv.W.forR (Pv.W.cons (Pv.W.call (Pv.W.cons (Pv.W.var rfl (Pv.W.nil ⟨_, _, lenF_ref hc1, Pv.W.nil ⟨_, rfl, by rw [pl]; omega, ?_⟩⟩)))))
  rw [pl]
  refine Pv.W.turns (fun k : Nat => PV.int (k : Nat)) (fun d r Γ S => d ++ r = List.range rows.length ∧ (∃ y6, Γ = h29 (scr ns) c l h (.con .own .lst (nw.map PV.str)) y6) ∧ S[c]? = some (some (.lst, pvs (part (renR nw) rows d.length))) ∧ S[l]? = some (some (.lst, lns rows)) ∧ S[h]? = some (some (.lst, hvs hds))) ?_ ?_ ⟨rfl, ⟨_, rfl⟩, by rw [List.length_nil, part_0]; exact hc1, hl1, hh1⟩
  · rintro dn k r Γ S2 ⟨e, ⟨y6, rfl⟩, q1, q2, q3⟩
    refine ⟨_, _, rfl, ?_⟩
    obtain ⟨hk, hkl⟩ : k = dn.length ∧ k < rows.length := by
      have a1 := congrArg (fun l => l[dn.length]?) e
      simp only [List.getElem?_append_right (Nat.le_refl _), Nat.sub_self, List.getElem?_cons_zero] at a1
      have a2 : dn.length < rows.length := by have := congrArg List.length e; simp at this; omega
      rw [List.getElem?_range a2] at a1
      exact ⟨Option.some.inj a1, by have := Option.some.inj a1; omega⟩
    have lS := (List.getElem?_eq_some_iff.mp q1).1
    obtain ⟨rw0, hr0⟩ : ∃ r0, rows[k]? = some r0 := ⟨rows[k], List.getElem?_eq_getElem hkl⟩
    rw [← hk] at q1
    refine ren_turn hr0 (habc k rw0 hr0) hv3 q1 ?_
    refine ⟨by rw [List.append_assoc]; exact e, ⟨_, rfl⟩, ?_, ?_, ?_⟩
    · rw [List.length_append, ← hk]
      exact List.getElem?_set_self lS
    · rw [List.getElem?_set_ne (by omega)]; exact q2
    · rw [List.getElem?_set_ne (by omega)]; exact q3
  · rintro dn Γ S2 ⟨e, ⟨y6, rfl⟩, q1, q2, q3⟩
    rw [List.append_nil] at e
    have hd : dn.length = rows.length := by rw [e, List.length_range]
    rw [hd, part_n] at q1
    subst hR6
    have el : lns rows = lns (rows.mapIdx (renR nw)) := (lns_idx (new := renR nw) fun k r => rfl).symm
    rw [el] at q2
    refine Pv.W.go (tail29 (tidy_ren t hnw) (by omega) q1 q2 q3)
end Law
namespace Law
open PySem PySem.Spec PyProof.Rows L2 Pv
theorem facts {P : Program} {w : World} {K : PySem.W.Frag} {h : Heap} {mg : Str → Option Value} {f : Addr} (X : K.In h) (G : h.Ns mainGlobals mg) (hfa : mg ("law" : Str) = some (.ref f)) (c : He.SaysX faL fnL tsL [] exB w h K) :
    ∃ fd : FuncData, (∀ (s : Shared) (v : Value), BindsTo s fd ⟨[v], []⟩ [("_law_script", v)]) ∧ ∀ base : Heap, K.In base → base.Ns mainGlobals mg → FnOk P w K mg base (L2.CX P w) 17 f fd ["_law_script"] (spP ⟨K, mg⟩ f_law) := by
  have D_in_range : DefAt K mg "in_range" (topS 21) ["value", "least", "greatest"] := by
    obtain ⟨fd, F⟩ := c.t.d.def_ 0 (d := dd_in_range) rfl
    exact ⟨_, fd, F, He.glo_ok X G (c.t.d.fact 0 (f := .glo "in_range") rfl), FunD.bindsN F fun _ _ _ _ _ _ us hl => match us, hl with | [_, _, _], _ => rfl⟩
  have D_is_word : DefAt K mg "is_word" (topS 22) ["value"] := by
    obtain ⟨fd, F⟩ := c.t.d.def_ 1 (d := dd_is_word) rfl
    exact ⟨_, fd, F, He.glo_ok X G (c.t.d.fact 1 (f := .glo "is_word") rfl), FunD.bindsN F fun _ _ _ _ _ _ us hl => match us, hl with | [_], _ => rfl⟩
  have D_fits_form : DefAt K mg "fits_form" (topS 23) ["value"] := by
    obtain ⟨fd, F⟩ := c.t.d.def_ 2 (d := dd_fits_form) rfl
    exact ⟨_, fd, F, He.glo_ok X G (c.t.d.fact 2 (f := .glo "fits_form") rfl), FunD.bindsN F fun _ _ _ _ _ _ us hl => match us, hl with | [_], _ => rfl⟩
  have D_is_handler : DefAt K mg "is_handler" (topS 24) ["value", "many"] := by
    obtain ⟨fd, F⟩ := c.t.d.def_ 3 (d := dd_is_handler) rfl
    exact ⟨_, fd, F, He.glo_ok X G (c.t.d.fact 3 (f := .glo "is_handler") rfl), FunD.bindsN F fun _ _ _ _ _ _ us hl => match us, hl with | [_, _], _ => rfl⟩
  have D_raised_kind : DefAt K mg "raised_kind" (topS 25) ["instruction"] := by
    obtain ⟨fd, F⟩ := c.t.d.def_ 4 (d := dd_raised_kind) rfl
    exact ⟨_, fd, F, He.glo_ok X G (c.t.d.fact 4 (f := .glo "raised_kind") rfl), FunD.bindsN F fun _ _ _ _ _ _ us hl => match us, hl with | [_], _ => rfl⟩
  have D_receiver : DefAt K mg "receiver" (topS 26) ["handlers", "index", "kind"] := by
    obtain ⟨fd, F⟩ := c.t.d.def_ 5 (d := dd_receiver) rfl
    exact ⟨_, fd, F, He.glo_ok X G (c.t.d.fact 5 (f := .glo "receiver") rfl), FunD.bindsN F fun _ _ _ _ _ _ us hl => match us, hl with | [_, _, _], _ => rfl⟩
  have D_moves : DefAt K mg "moves" (topS 28) ["code", "handlers", "index"] := by
    obtain ⟨fd, F⟩ := c.t.d.def_ 6 (d := dd_moves) rfl
    exact ⟨_, fd, F, He.glo_ok X G (c.t.d.fact 6 (f := .glo "moves") rfl), FunD.bindsN F fun _ _ _ _ _ _ us hl => match us, hl with | [_, _, _], _ => rfl⟩
  have D_check_parts : DefAt K mg "check_parts" (topS 29) ["code", "lines", "handlers"] := by
    obtain ⟨fd, F⟩ := c.t.d.def_ 7 (d := dd_check_parts) rfl
    exact ⟨_, fd, F, He.glo_ok X G (c.t.d.fact 7 (f := .glo "check_parts") rfl), FunD.bindsN F fun _ _ _ _ _ _ us hl => match us, hl with | [_, _, _], _ => rfl⟩
  have D_depths_of : DefAt K mg "depths_of" (topS 30) ["code", "handlers"] := by
    obtain ⟨fd, F⟩ := c.t.d.def_ 8 (d := dd_depths_of) rfl
    exact ⟨_, fd, F, He.glo_ok X G (c.t.d.fact 8 (f := .glo "depths_of") rfl), FunD.bindsN F fun _ _ _ _ _ _ us hl => match us, hl with | [_, _], _ => rfl⟩
  obtain ⟨fd_Unit_init, F_Unit_init⟩ := c.t.d.def_ 9 (d := dd_Unit_init) rfl
  obtain ⟨fd_Unit_eq, F_Unit_eq⟩ := c.t.d.def_ 10 (d := dd_Unit_eq) rfl
  have D_row_text : DefAt K mg "row_text" (topS 34) ["line", "instruction"] := by
    obtain ⟨fd, F⟩ := c.t.d.def_ 11 (d := dd_row_text) rfl
    exact ⟨_, fd, F, He.glo_ok X G (c.t.d.fact 11 (f := .glo "row_text") rfl), FunD.bindsN F fun _ _ _ _ _ _ us hl => match us, hl with | [_, _], _ => rfl⟩
  have D_handler_text : DefAt K mg "handler_text" (topS 35) ["handler"] := by
    obtain ⟨fd, F⟩ := c.t.d.def_ 12 (d := dd_handler_text) rfl
    exact ⟨_, fd, F, He.glo_ok X G (c.t.d.fact 12 (f := .glo "handler_text") rfl), FunD.bindsN F fun _ _ _ _ _ _ us hl => match us, hl with | [_], _ => rfl⟩
  have D_write : DefAt K mg "write" (topS 36) ["unit"] := by
    obtain ⟨fd, F⟩ := c.t.d.def_ 13 (d := dd_write) rfl
    exact ⟨_, fd, F, He.glo_ok X G (c.t.d.fact 13 (f := .glo "write") rfl), FunD.bindsN F fun _ _ _ _ _ _ us hl => match us, hl with | [_], _ => rfl⟩
  have D_number_of : DefAt K mg "number_of" (topS 37) ["word", "least", "greatest"] := by
    obtain ⟨fd, F⟩ := c.t.d.def_ 14 (d := dd_number_of) rfl
    exact ⟨_, fd, F, He.glo_ok X G (c.t.d.fact 14 (f := .glo "number_of") rfl), FunD.bindsN F fun _ _ _ _ _ _ us hl => match us, hl with | [_, _, _], _ => rfl⟩
  have D_item_of : DefAt K mg "item_of" (topS 38) ["word", "text"] := by
    obtain ⟨fd, F⟩ := c.t.d.def_ 15 (d := dd_item_of) rfl
    exact ⟨_, fd, F, He.glo_ok X G (c.t.d.fact 15 (f := .glo "item_of") rfl), FunD.bindsN F fun _ _ _ _ _ _ us hl => match us, hl with | [_, _], _ => rfl⟩
  have D_instruction_of : DefAt K mg "instruction_of" (topS 39) ["words", "row"] := by
    obtain ⟨fd, F⟩ := c.t.d.def_ 16 (d := dd_instruction_of) rfl
    exact ⟨_, fd, F, He.glo_ok X G (c.t.d.fact 16 (f := .glo "instruction_of") rfl), FunD.bindsN F fun _ _ _ _ _ _ us hl => match us, hl with | [_, _], _ => rfl⟩
  have D_handler_of : DefAt K mg "handler_of" (topS 40) ["words", "row"] := by
    obtain ⟨fd, F⟩ := c.t.d.def_ 17 (d := dd_handler_of) rfl
    exact ⟨_, fd, F, He.glo_ok X G (c.t.d.fact 17 (f := .glo "handler_of") rfl), FunD.bindsN F fun _ _ _ _ _ _ us hl => match us, hl with | [_, _], _ => rfl⟩
  have D_read : DefAt K mg "read" (topS 41) ["text"] := by
    obtain ⟨fd, F⟩ := c.t.d.def_ 18 (d := dd_read) rfl
    exact ⟨_, fd, F, He.glo_ok X G (c.t.d.fact 18 (f := .glo "read") rfl), FunD.bindsN F fun _ _ _ _ _ _ us hl => match us, hl with | [_], _ => rfl⟩
  have D_law_begin : DefAt K mg "_law_begin" (topS 43) ["_law_script"] := by
    obtain ⟨fd, F⟩ := c.t.d.def_ 19 (d := dd_law_begin) rfl
    exact ⟨_, fd, F, He.glo_ok X G (c.t.d.fact 19 (f := .glo "_law_begin") rfl), FunD.bindsN F fun _ _ _ _ _ _ us hl => match us, hl with | [_], _ => rfl⟩
  have D_law_draw : DefAt K mg "_law_draw" (topS 44) ["_law_draws", "_law_many"] := by
    obtain ⟨fd, F⟩ := c.t.d.def_ 20 (d := dd_law_draw) rfl
    exact ⟨_, fd, F, He.glo_ok X G (c.t.d.fact 20 (f := .glo "_law_draw") rfl), FunD.bindsN F fun _ _ _ _ _ _ us hl => match us, hl with | [_, _], _ => rfl⟩
  have D_law_word : DefAt K mg "_law_word" (topS 45) ["_law_draws"] := by
    obtain ⟨fd, F⟩ := c.t.d.def_ 21 (d := dd_law_word) rfl
    exact ⟨_, fd, F, He.glo_ok X G (c.t.d.fact 21 (f := .glo "_law_word") rfl), FunD.bindsN F fun _ _ _ _ _ _ us hl => match us, hl with | [_], _ => rfl⟩
  have D_law_number : DefAt K mg "_law_number" (topS 46) ["_law_draws"] := by
    obtain ⟨fd, F⟩ := c.t.d.def_ 22 (d := dd_law_number) rfl
    exact ⟨_, fd, F, He.glo_ok X G (c.t.d.fact 22 (f := .glo "_law_number") rfl), FunD.bindsN F fun _ _ _ _ _ _ us hl => match us, hl with | [_], _ => rfl⟩
  have D_law_line : DefAt K mg "_law_line" (topS 47) ["_law_draws"] := by
    obtain ⟨fd, F⟩ := c.t.d.def_ 23 (d := dd_law_line) rfl
    exact ⟨_, fd, F, He.glo_ok X G (c.t.d.fact 23 (f := .glo "_law_line") rfl), FunD.bindsN F fun _ _ _ _ _ _ us hl => match us, hl with | [_], _ => rfl⟩
  have D_law_value : DefAt K mg "_law_value" (topS 48) ["_law_draws", "_law_rows", "_law_line_here"] := by
    obtain ⟨fd, F⟩ := c.t.d.def_ 24 (d := dd_law_value) rfl
    exact ⟨_, fd, F, He.glo_ok X G (c.t.d.fact 24 (f := .glo "_law_value") rfl), FunD.bindsN F fun _ _ _ _ _ _ us hl => match us, hl with | [_, _, _], _ => rfl⟩
  have D_law_plain : DefAt K mg "_law_plain" (topS 49) ["_law_draws", "_law_rows"] := by
    obtain ⟨fd, F⟩ := c.t.d.def_ 25 (d := dd_law_plain) rfl
    exact ⟨_, fd, F, He.glo_ok X G (c.t.d.fact 25 (f := .glo "_law_plain") rfl), FunD.bindsN F fun _ _ _ _ _ _ us hl => match us, hl with | [_, _], _ => rfl⟩
  have D_law_choice : DefAt K mg "_law_choice" (topS 50) ["_law_draws", "_law_rows", "_law_handlers", "_law_deep", "_law_base"] := by
    obtain ⟨fd, F⟩ := c.t.d.def_ 26 (d := dd_law_choice) rfl
    exact ⟨_, fd, F, He.glo_ok X G (c.t.d.fact 26 (f := .glo "_law_choice") rfl), FunD.bindsN F fun _ _ _ _ _ _ us hl => match us, hl with | [_, _, _, _, _], _ => rfl⟩
  have D_law_loop : DefAt K mg "_law_loop" (topS 51) ["_law_draws", "_law_rows", "_law_handlers", "_law_deep", "_law_base"] := by
    obtain ⟨fd, F⟩ := c.t.d.def_ 27 (d := dd_law_loop) rfl
    exact ⟨_, fd, F, He.glo_ok X G (c.t.d.fact 27 (f := .glo "_law_loop") rfl), FunD.bindsN F fun _ _ _ _ _ _ us hl => match us, hl with | [_, _, _, _, _], _ => rfl⟩
  have D_law_guard : DefAt K mg "_law_guard" (topS 52) ["_law_draws", "_law_rows", "_law_handlers", "_law_deep", "_law_base"] := by
    obtain ⟨fd, F⟩ := c.t.d.def_ 28 (d := dd_law_guard) rfl
    exact ⟨_, fd, F, He.glo_ok X G (c.t.d.fact 28 (f := .glo "_law_guard") rfl), FunD.bindsN F fun _ _ _ _ _ _ us hl => match us, hl with | [_, _, _, _, _], _ => rfl⟩
  have D_law_body : DefAt K mg "_law_body" (topS 53) ["_law_draws", "_law_rows", "_law_handlers", "_law_deep", "_law_base"] := by
    obtain ⟨fd, F⟩ := c.t.d.def_ 29 (d := dd_law_body) rfl
    exact ⟨_, fd, F, He.glo_ok X G (c.t.d.fact 29 (f := .glo "_law_body") rfl), FunD.bindsN F fun _ _ _ _ _ _ us hl => match us, hl with | [_, _, _, _, _], _ => rfl⟩
  have D_law_parts : DefAt K mg "_law_parts" (topS 54) ["_law_draws"] := by
    obtain ⟨fd, F⟩ := c.t.d.def_ 30 (d := dd_law_parts) rfl
    exact ⟨_, fd, F, He.glo_ok X G (c.t.d.fact 30 (f := .glo "_law_parts") rfl), FunD.bindsN F fun _ _ _ _ _ _ us hl => match us, hl with | [_], _ => rfl⟩
  have D_law_figures : DefAt K mg "_law_figures" (topS 56) ["_law_value_here"] := by
    obtain ⟨fd, F⟩ := c.t.d.def_ 31 (d := dd_law_figures) rfl
    exact ⟨_, fd, F, He.glo_ok X G (c.t.d.fact 31 (f := .glo "_law_figures") rfl), FunD.bindsN F fun _ _ _ _ _ _ us hl => match us, hl with | [_], _ => rfl⟩
  have D_law_item : DefAt K mg "_law_item" (topS 57) ["_law_value_here"] := by
    obtain ⟨fd, F⟩ := c.t.d.def_ 32 (d := dd_law_item) rfl
    exact ⟨_, fd, F, He.glo_ok X G (c.t.d.fact 32 (f := .glo "_law_item") rfl), FunD.bindsN F fun _ _ _ _ _ _ us hl => match us, hl with | [_], _ => rfl⟩
  obtain ⟨fd, F⟩ := c.t.d.def_ 33 (d := dd_law) rfl
  have z_bool : mg "bool" = none := He.free_ok X G (c.t.d.fact 34 (f := .free "bool") rfl)
  have z_isinstance : mg "isinstance" = none := He.free_ok X G (c.t.d.fact 35 (f := .free "isinstance") rfl)
  have z_int : mg "int" = none := He.free_ok X G (c.t.d.fact 36 (f := .free "int") rfl)
  have z_len : mg "len" = none := He.free_ok X G (c.t.d.fact 37 (f := .free "len") rfl)
  have z_str : mg "str" = none := He.free_ok X G (c.t.d.fact 38 (f := .free "str") rfl)
  have z_tuple : mg "tuple" = none := He.free_ok X G (c.t.d.fact 39 (f := .free "tuple") rfl)
  have z_enumerate : mg "enumerate" = none := He.free_ok X G (c.t.d.fact 40 (f := .free "enumerate") rfl)
  have z_max : mg "max" = none := He.free_ok X G (c.t.d.fact 41 (f := .free "max") rfl)
  have z_range : mg "range" = none := He.free_ok X G (c.t.d.fact 42 (f := .free "range") rfl)
  have z_zip : mg "zip" = none := He.free_ok X G (c.t.d.fact 43 (f := .free "zip") rfl)
  have z_list : mg "list" = none := He.free_ok X G (c.t.d.fact 44 (f := .free "list") rfl)
  have more := c.more
  simp only [exB, Bool.and_eq_true] at more
  have k_LETTERS : ∃ t, mg "LETTERS" = some (.str c_LETTERS t) := He.str_ok X G (c.t.d.fact 45 (f := .str "LETTERS" c_LETTERS) rfl)
  have k_PLAIN : WTup K mg "PLAIN" c_PLAIN := wtup_of X G (c.t.d.fact 46 (f := .glo "PLAIN") rfl) more.1
  have k_NAMED : WTup K mg "NAMED" c_NAMED := wtup_of X G (c.t.d.fact 47 (f := .glo "NAMED") rfl) more.2.1
  have k_JUMPS : WTup K mg "JUMPS" c_JUMPS := wtup_of X G (c.t.d.fact 48 (f := .glo "JUMPS") rfl) more.2.2.1
  have k_LAST : WTup K mg "LAST" c_LAST := wtup_of X G (c.t.d.fact 49 (f := .glo "LAST") rfl) more.2.2.2.1
  have k_GREATEST : ∃ t, mg "GREATEST" = some (.int c_GREATEST t) := He.int_ok X G (c.t.d.fact 50 (f := .int "GREATEST" c_GREATEST) rfl)
  have k_LINES : ∃ t, mg "LINES" = some (.int c_LINES t) := He.int_ok X G (c.t.d.fact 51 (f := .int "LINES" c_LINES) rfl)
  have k_MOST : ∃ t, mg "MOST" = some (.int c_MOST t) := He.int_ok X G (c.t.d.fact 52 (f := .int "MOST" c_MOST) rfl)
  have k_FIGURES : ∃ t, mg "FIGURES" = some (.str c_FIGURES t) := He.str_ok X G (c.t.d.fact 53 (f := .str "FIGURES" c_FIGURES) rfl)
  have x_BadCode := excB_ok X G more.2.2.2.2.1
  have x_FallsOff := excB_ok X G more.2.2.2.2.2.1
  have x_BadDepth := excB_ok X G more.2.2.2.2.2.2.1
  have x_BadInstruction : ∀ base, ExcI P w K mg base "BadInstruction" "index" (He.ga K "BadInstruction") := fun base => by
    obtain ⟨fd, F⟩ := c.t.d.def_ 34 (d := dd_ini_BadInstruction) rfl
    exact (oexB_ok X G more.2.2.2.2.2.2.2.1).ok (st := ini_BadInstruction) (dvs := []) (kws := []) F (FunD.bindsN F fun _ _ _ _ _ _ us hl => match us, hl with | [_, _], _ => rfl) ⟨rfl, rfl, rfl, by decide +kernel, rfl, by decide +kernel, by decide +kernel⟩ rfl (by decide +kernel) (by decide +kernel)
  have x_BadTarget : ∀ base, ExcI P w K mg base "BadTarget" "index" (He.ga K "BadTarget") := fun base => by
    obtain ⟨fd, F⟩ := c.t.d.def_ 35 (d := dd_ini_BadTarget) rfl
    exact (oexB_ok X G more.2.2.2.2.2.2.2.2.1).ok (st := ini_BadTarget) (dvs := []) (kws := []) F (FunD.bindsN F fun _ _ _ _ _ _ us hl => match us, hl with | [_, _], _ => rfl) ⟨rfl, rfl, rfl, by decide +kernel, rfl, by decide +kernel, by decide +kernel⟩ rfl (by decide +kernel) (by decide +kernel)
  have x_BadLine : ∀ base, ExcI P w K mg base "BadLine" "index" (He.ga K "BadLine") := fun base => by
    obtain ⟨fd, F⟩ := c.t.d.def_ 36 (d := dd_ini_BadLine) rfl
    exact (oexB_ok X G more.2.2.2.2.2.2.2.2.2.1).ok (st := ini_BadLine) (dvs := []) (kws := []) F (FunD.bindsN F fun _ _ _ _ _ _ us hl => match us, hl with | [_, _], _ => rfl) ⟨rfl, rfl, rfl, by decide +kernel, rfl, by decide +kernel, by decide +kernel⟩ rfl (by decide +kernel) (by decide +kernel)
  have x_BadHandler : ∀ base, ExcI P w K mg base "BadHandler" "index" (He.ga K "BadHandler") := fun base => by
    obtain ⟨fd, F⟩ := c.t.d.def_ 37 (d := dd_ini_BadHandler) rfl
    exact (oexB_ok X G more.2.2.2.2.2.2.2.2.2.2.1).ok (st := ini_BadHandler) (dvs := []) (kws := []) F (FunD.bindsN F fun _ _ _ _ _ _ us hl => match us, hl with | [_, _], _ => rfl) ⟨rfl, rfl, rfl, by decide +kernel, rfl, by decide +kernel, by decide +kernel⟩ rfl (by decide +kernel) (by decide +kernel)
  have x_BadText : ∀ base, ExcI2 P w K mg base "BadText" "row" "word" (He.ga K "BadText") := fun base => by
    obtain ⟨fd, F⟩ := c.t.d.def_ 38 (d := dd_ini_BadText) rfl
    exact (oexB_ok X G more.2.2.2.2.2.2.2.2.2.2.2.1).ok2 (oexB_ok X G more.2.2.2.2.2.2.2.2.2.2.2.2.1) (st := ini_BadText) (dvs := []) (kws := []) F (FunD.bindsN F fun _ _ _ _ _ _ us hl => match us, hl with | [_, _, _], _ => rfl) ⟨rfl, rfl, rfl, by decide +kernel, rfl, by decide +kernel, by decide +kernel⟩ rfl (by decide +kernel) (by decide +kernel) (by decide +kernel)
  have p_REMOVED : WMap K w mg "REMOVED" c_REMOVED := mapB_ok X G more.2.2.2.2.2.2.2.2.2.2.2.2.2.1 (c.t.tab 0) more.2.2.2.2.2.2.2.2.2.2.2.2.2.2.1
  have p_PUSHED : WMap K w mg "PUSHED" c_PUSHED := mapB_ok X G more.2.2.2.2.2.2.2.2.2.2.2.2.2.2.2.1 (c.t.tab 1) more.2.2.2.2.2.2.2.2.2.2.2.2.2.2.2.2.1
  have a_Unit_code := attB_ok X G more.2.2.2.2.2.2.2.2.2.2.2.2.2.2.2.2.2.1
  have a_Unit_lines := attB_ok X G more.2.2.2.2.2.2.2.2.2.2.2.2.2.2.2.2.2.2.1
  have a_Unit_handlers := attB_ok X G more.2.2.2.2.2.2.2.2.2.2.2.2.2.2.2.2.2.2.2.1
  have a_Unit_found_depths := attB_ok X G more.2.2.2.2.2.2.2.2.2.2.2.2.2.2.2.2.2.2.2.2.1
  have qg_Unit := He.glo_ok X G more.2.2.2.2.2.2.2.2.2.2.2.2.2.2.2.2.2.2.2.2.2.1
  have qm_Unit := He.meth_ok more.2.2.2.2.2.2.2.2.2.2.2.2.2.2.2.2.2.2.2.2.2.2.1
  have is_Unit := isoB_ok X G more.2.2.2.2.2.2.2.2.2.2.2.2.2.2.2.2.2.2.2.2.2.2.2.1
  have mg_Unit := He.glo_ok X G more.2.2.2.2.2.2.2.2.2.2.2.2.2.2.2.2.2.2.2.2.2.2.2.2.1
  have mm_Unit := He.mkr_ok more.2.2.2.2.2.2.2.2.2.2.2.2.2.2.2.2.2.2.2.2.2.2.2.2.2.1
  have df_Unit_0 := dfT_ok (mg := mg) more.2.2.2.2.2.2.2.2.2.2.2.2.2.2.2.2.2.2.2.2.2.2.2.2.2.2.1
  have e := hfa.symm.trans (He.glo_ok X G (c.t.d.fact 33 (f := .glo "law") rfl))
  cases e
  refine ⟨fd, fun s v => FunD.bindsA (ps := ["_law_script"]) F (fun _ _ _ _ _ _ us hl => match us, hl with | [_], _ => rfl) s [v] rfl, fun base _ _ => ?_⟩
  have x_BadInstruction := x_BadInstruction base
  have x_BadTarget := x_BadTarget base
  have x_BadLine := x_BadLine base
  have x_BadHandler := x_BadHandler base
  have x_BadText := x_BadText base
  have c_in_range := d_in_range (P := P) (w := w) (base := base) D_in_range z_bool z_isinstance z_int
  have c_is_word := d_is_word (P := P) (w := w) (base := base) D_is_word z_len z_str z_isinstance k_LETTERS
  have c_raised_kind := d_raised_kind (P := P) (w := w) (base := base) D_raised_kind 
  have c_receiver := d_receiver (P := P) (w := w) (base := base) D_receiver 
  have h_Unit_eq := d_Unit_eq (P := P) (w := w) (base := base) F_Unit_eq a_Unit_handlers a_Unit_lines a_Unit_code is_Unit z_isinstance
  have q_Unit : EqT P w K mg base 1 "Unit" f_Unit_eq := ⟨_, _, _, _, qg_Unit, qm_Unit.1, qm_Unit.2, h_Unit_eq, FunD.bindsN F_Unit_eq (fun _ _ _ _ _ _ us hl => match us, hl with | [_, _], _ => rfl)⟩
  have c_row_text := d_row_text (P := P) (w := w) (base := base) D_row_text z_str
  have c_handler_text := d_handler_text (P := P) (w := w) (base := base) D_handler_text 
  have c_number_of := d_number_of (P := P) (w := w) (base := base) D_number_of z_len k_FIGURES z_int
  have c_law_begin := d_law_begin (P := P) (w := w) (base := base) D_law_begin z_list
  have c_law_draw := d_law_draw (P := P) (w := w) (base := base) D_law_draw z_len z_int
  have c_law_figures := d_law_figures (P := P) (w := w) (base := base) D_law_figures z_int 10
  have c_fits_form := d_fits_form (P := P) (w := w) (base := base) D_fits_form c_in_range c_is_word z_str z_isinstance z_len z_tuple k_PLAIN k_GREATEST k_NAMED z_bool z_int k_JUMPS
  have c_is_handler := d_is_handler (P := P) (w := w) (base := base) D_is_handler c_in_range c_is_word z_len z_tuple z_isinstance k_MOST
  have c_moves := d_moves (P := P) (w := w) (base := base) D_moves c_raised_kind c_receiver z_len k_LAST k_JUMPS
  have c_write := d_write (P := P) (w := w) (base := base) D_write c_row_text c_handler_text a_Unit_lines a_Unit_code z_zip a_Unit_handlers
  have c_item_of := d_item_of (P := P) (w := w) (base := base) D_item_of c_is_word c_number_of k_GREATEST k_JUMPS
  have c_law_word := d_law_word (P := P) (w := w) (base := base) D_law_word c_law_draw z_range
  have c_law_number := d_law_number (P := P) (w := w) (base := base) D_law_number c_law_draw
  have c_law_line := d_law_line (P := P) (w := w) (base := base) D_law_line c_law_draw
  have c_check_parts := d_check_parts (P := P) (w := w) (base := base) D_check_parts c_fits_form c_is_handler c_in_range z_len k_MOST x_BadCode z_enumerate x_BadInstruction k_JUMPS x_BadTarget z_max z_range k_LINES x_BadLine x_BadHandler k_LAST x_FallsOff
  have c_depths_of := d_depths_of (P := P) (w := w) (base := base) D_depths_of c_moves z_len p_REMOVED x_BadDepth p_PUSHED z_tuple
  have c_instruction_of := d_instruction_of (P := P) (w := w) (base := base) D_instruction_of c_number_of c_item_of k_LINES x_BadText z_len k_PLAIN k_NAMED k_JUMPS
  have c_handler_of := d_handler_of (P := P) (w := w) (base := base) D_handler_of c_number_of c_is_word z_range z_len k_GREATEST x_BadText z_tuple
  have c_law_value := d_law_value (P := P) (w := w) (base := base) D_law_value c_law_draw c_law_number
  have h_Unit_init := d_Unit_init (P := P) (w := w) (base := base) F_Unit_init c_check_parts c_depths_of a_Unit_code z_tuple a_Unit_lines a_Unit_handlers a_Unit_found_depths
  have mk3_Unit : Mka P w K mg base 4 "Unit" i_Unit_init 3 [] := by
    obtain ⟨ds, hd, hb⟩ := FunD.binds1 F_Unit_init (ps := ["self", "code", "lines", "handlers"]) 4 1 (List.cons_ne_nil _ _) rfl (fun T kV doc pm an cdv ct us its hl hi => match us, hl, its, hi with | [_, _, _, _], _, [_], _ => ⟨_, rfl, rfl⟩)
    exact ⟨_, _, _, _, _, ds, mm_Unit, h_Unit_init, mg_Unit, hb, hd, by rw [← hd.length]; rfl, fun H g => RVs.nil⟩
  have c_law_plain := d_law_plain (P := P) (w := w) (base := base) D_law_plain c_law_line c_law_draw c_law_value z_len
  have fam_law_body := d_fam_law_body (P := P) (w := w) (base := base) D_law_choice D_law_loop D_law_guard D_law_body c_law_line c_law_value c_law_draw z_len c_law_plain c_law_number z_range 10
  have c_law_choice := fam_law_body.1
  have c_law_loop := fam_law_body.2.1
  have c_law_guard := fam_law_body.2.2.1
  have c_law_body := fam_law_body.2.2.2
  have c_read := d_read (P := P) (w := w) (base := base) D_read c_handler_of c_instruction_of z_enumerate x_BadText mk3_Unit
  have c_law_item := d_law_item (P := P) (w := w) (base := base) D_law_item c_law_figures z_int z_isinstance
  have c_law_parts := d_law_parts (P := P) (w := w) (base := base) D_law_parts c_law_body c_law_draw c_law_line z_range
  exact d_law F c_law_begin c_law_parts c_write c_read c_law_word c_law_item z_range z_len mk3_Unit z_str z_isinstance q_Unit is_Unit
end Law
open PySem PySem.W PySem.Calls PyProof.Rows
theorem PySem.Challenge.cw_codetables_k29_texts_there_and_back_holds : PySem.Challenge.rw_codetables_k29_texts_there_and_back.Holds := by
  w_on; o_law
  refine HandSHeadRun.head_any (r := OpenLaw.row PySem.Challenge.rw_codetables_k29_texts_there_and_back) (q := view (OpenLaw.row PySem.Challenge.rw_codetables_k29_texts_there_and_back).prog [58]) (H := Law.hk) (ob := Law.ob) (M := 9000) (loose := Law.looseL) (d := HandSHeadRun.topDef (OpenLaw.row PySem.Challenge.rw_codetables_k29_texts_there_and_back).prog 58) (kwd := []) Law.ob_eq
    (by kernel_rfl) (fun s => by kernel_rfl) Law.run (by kernel_rfl) (by kernel_rfl) (by kernel_rfl) (by rfl) (by first | assumption | decide +kernel) (by decide +kernel) ⟨rfl, rfl, rfl, rfl, rfl, by decide +kernel⟩ ?hw ?hc
  case hw => w_witness2
  case hc =>
    refine Pv.law_end (l := PySem.Challenge.rw_codetables_k29_texts_there_and_back) (n := 63) (k := 17) (x := "_law_script") rfl (by decide) (by kernel_rfl) ⟨rfl, by decide, by decide⟩ ?F
    intro w mg fa h Y G hmg0
    obtain ⟨K, KX, c⟩ := Y
    have hmg : mg ("law" : PySem.Str) = some (.ref fa) := by
      have e : (HandSHeadRun.topDef (OpenLaw.row PySem.Challenge.rw_codetables_k29_texts_there_and_back).prog 58).name = ("law" : PySem.Str) := by kernel_rfl
      rw [← e]
      exact hmg0
    obtain ⟨fd, hb, hF⟩ := Law.facts (P := (PySem.Challenge.rw_codetables_k29_texts_there_and_back).prog) (w := w) KX G hmg c
    exact ⟨K, Law.f_law, fd, KX, hb, Law.pure_law, hF⟩
