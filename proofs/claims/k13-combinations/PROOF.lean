import PyProof.Rows.All
import Wide.All
import OpenK.AllK
import Wide.FinOn
import HandS.ForMost
import HandS.ForExc
import HandS.CallSlots
import HandS.Property
import HandS.Defaults
import HandS.Gcd
import HandS.IsInst
import HandS.Conv
import KE.KOpsOwn
import HandS.Walk
import HandS.TryOnly
import HandS.HeadHook2
import HandS.Head0
import HandS.Head1
import HandS.Head2
import HandS.Head3
import HandS.HeadEnd
import HandS.HeadHook1
import HandS.EndBits
import HandS.Zip
import HandS.Deep
import HandS.TupAny
import HandS.Style
import HandS.Iter
import KE.GoesEnum
import KE.GoesMore
import HandS.IterNext
import KE.KOwnIter
import HandS.OwnEq
import HandS.ExcIs
import PySem.Challenge.RW_indicial_k13_linear_combinations
namespace De
set_option Elab.async false
set_option linter.all false
set_option maxRecDepth 100000
set_option maxHeartbeats 4000000
/-! ### values without heap, results -/
open PySem L2
inductive D where
  | non | bl (b : Bool) | int (i : Int) | str (x : Str) | tup (ds : List D) | lst (ds : List D) | obj (c : Nat) (fs : List D)
structure Exn where
  c : Nat
  fs : List D
inductive Res (α : Type) where
  | stuck | ok (a : α) | exc (x : Exn)
def Res.bind {α β : Type} : Res α → (α → Res β) → Res β
  | .stuck, _ => .stuck
  | .ok a, f => f a
  | .exc x, _ => .exc x
@[simp] theorem Res.bind_ok {α β : Type} (a : α) (f : α → Res β) : Res.bind (.ok a) f = f a := rfl
@[simp] theorem Res.bind_stuck {α β : Type} (f : α → Res β) : Res.bind .stuck f = .stuck := rfl
@[simp] theorem Res.bind_exc {α β : Type} (x : Exn) (f : α → Res β) : Res.bind (.exc x) f = .exc x := rfl
/-- what a program's text is read over: the written part, the classes by tags -/
structure Gam where
  P : Program
  w : World
  K : PySem.W.Frag
  mg : Str → Option Value
  base : Heap
  cls : Nat → Addr
  fld : Nat → List Str
  ea : Addr := 0
  ec : Value := .none
  ed : Option Addr := none
def KTup (K : PySem.W.Frag) (a : Addr) (xs : List V) : Prop := ∃ (o : Obj) (its : Array Value) (n : Nat), K.lookup a = some o ∧ o.cls = .type "tuple" ∧ o.data = .seq its n ∧ its.size ≤ sizeLine ∧ Vals xs its.toList
def KLst (K : PySem.W.Frag) (a : Addr) (xs : List V) : Prop := ∃ (o : Obj) (its : Array Value) (n : Nat), K.lookup a = some o ∧ o.cls = .type "list" ∧ o.dict = none ∧ o.data = .seq its n ∧ its.size ≤ sizeLine ∧ Vals xs its.toList
def TupAt (Γ : Gam) (M : Addr → Prop) (H : Hp) (a : Addr) (vs : List V) : Prop := (Rd H a (.tup vs) ∧ ¬ M a) ∨ KTup Γ.K a vs
def LstAt (Γ : Gam) (M : Addr → Prop) (H : Hp) (a : Addr) (vs : List V) : Prop := (Rd H a (.lst vs) ∧ ¬ M a) ∨ KLst Γ.K a vs
theorem TupAt.sq {Γ : Gam} {M : Addr → Prop} {H : Hp} {a : Addr} {vs : List V} (h : TupAt Γ M H a vs) : SqT Γ.K H a vs := h.elim (fun h => .inl h.1) .inr
theorem LstAt.sq {Γ : Gam} {M : Addr → Prop} {H : Hp} {a : Addr} {vs : List V} (h : LstAt Γ M H a vs) : SqL Γ.K H a vs := h.elim (fun h => .inl h.1) .inr
/-! ### the value v stands for the datum d, away from the addresses M -/
mutual
def Rp (Γ : Gam) (M : Addr → Prop) (H : Hp) : D → V → Prop
  | .non, v => v = .non
  | .bl b, v => v = .bl b
  | .int i, v => v = .int i
  | .str x, v => v = .str x
  | .tup ds, v => ∃ a vs, v = .ref a ∧ TupAt Γ M H a vs ∧ RpL Γ M H ds vs
  | .lst ds, v => ∃ a vs, v = .ref a ∧ LstAt Γ M H a vs ∧ RpL Γ M H ds vs
  | .obj c fs, v => ∃ a dx us, v = .ref a ∧ H a = some (.ins (Γ.cls c) dx us) ∧ ¬ M a ∧ us.map (·.1) = (Γ.fld c).take us.length ∧ RpL Γ M H fs (us.map (·.2))
def RpL (Γ : Gam) (M : Addr → Prop) (H : Hp) : List D → List V → Prop
  | [], vs => vs = []
  | d :: ds, vs => ∃ v r, vs = v :: r ∧ Rp Γ M H d v ∧ RpL Γ M H ds r
end
/-- what is tracked and not in M is kept, and not in M' -/
def Imp (M M' : Addr → Prop) (H H' : Hp) : Prop := ∀ a o, H a = some o → ¬ M a → ¬ M' a ∧ H' a = some o
section
variable {Γ : Gam} {M M' : Addr → Prop} {H H' : Hp}
theorem TupAt.imp (k : Imp M M' H H') {a : Addr} {vs : List V} (h : TupAt Γ M H a vs) : TupAt Γ M' H' a vs := by
  rcases h with ⟨h, n⟩ | h
  · rcases h with h | ⟨o, h⟩
    · exact .inl ⟨.inl (k a _ h n).2, (k a _ h n).1⟩
    · exact .inl ⟨.inr ⟨o, (k a _ h n).2⟩, (k a _ h n).1⟩
  · exact .inr h
theorem LstAt.imp (k : Imp M M' H H') {a : Addr} {vs : List V} (h : LstAt Γ M H a vs) : LstAt Γ M' H' a vs := by
  rcases h with ⟨h, n⟩ | h
  · rcases h with h | ⟨o, h⟩
    · exact .inl ⟨.inl (k a _ h n).2, (k a _ h n).1⟩
    · exact .inl ⟨.inr ⟨o, (k a _ h n).2⟩, (k a _ h n).1⟩
  · exact .inr h
mutual
theorem Rp.imp (k : Imp M M' H H') : ∀ (d : D) (v : V), Rp Γ M H d v → Rp Γ M' H' d v
  | .non, v, h => by rw [Rp] at h ⊢; exact h
  | .bl b, v, h => by rw [Rp] at h ⊢; exact h
  | .int i, v, h => by rw [Rp] at h ⊢; exact h
  | .str x, v, h => by rw [Rp] at h ⊢; exact h
  | .tup ds, v, h => by
    rw [Rp] at h ⊢
    obtain ⟨a, vs, e, t, r⟩ := h
    exact ⟨a, vs, e, t.imp k, RpL.imp k ds vs r⟩
  | .lst ds, v, h => by
    rw [Rp] at h ⊢
    obtain ⟨a, vs, e, t, r⟩ := h
    exact ⟨a, vs, e, t.imp k, RpL.imp k ds vs r⟩
  | .obj c fs, v, h => by
    rw [Rp] at h ⊢
    obtain ⟨a, dx, us, e, t, n, m, r⟩ := h
    exact ⟨a, dx, us, e, (k a _ t n).2, (k a _ t n).1, m, RpL.imp k fs _ r⟩
theorem RpL.imp (k : Imp M M' H H') : ∀ (ds : List D) (vs : List V), RpL Γ M H ds vs → RpL Γ M' H' ds vs
  | [], vs, h => by rw [RpL] at h ⊢; exact h
  | d :: ds, vs, h => by
    rw [RpL] at h ⊢
    obtain ⟨v, r, e, h1, h2⟩ := h
    exact ⟨v, r, e, Rp.imp k d v h1, RpL.imp k ds r h2⟩
end
theorem Imp.mono (e : Same H H') : Imp M M H H' := fun a o h n => ⟨n, e a o h⟩
theorem Imp.weak (h : ∀ a, M' a → M a) : Imp M M' H H := fun a o e n => ⟨fun z => n (h a z), e⟩
theorem Imp.trans {M1 : Addr → Prop} {H1 : Hp} (a : Imp M M' H H') (b : Imp M' M1 H' H1) : Imp M M1 H H1 := fun x o e n => b x o (a x o e n).2 (a x o e n).1
theorem Imp.fresh {p : Addr} (h : H p = none) : Imp M (fun a => M a ∨ a = p) H H := fun a o e n => ⟨fun z => z.elim n fun q => (by rw [q, h] at e; cases e), e⟩
theorem Rp.mono (e : Same H H') {d : D} {v : V} (h : Rp Γ M H d v) : Rp Γ M H' d v := Rp.imp (.mono e) d v h
theorem RpL.mono (e : Same H H') {ds : List D} {vs : List V} (h : RpL Γ M H ds vs) : RpL Γ M H' ds vs := RpL.imp (.mono e) ds vs h
theorem RpL.length : ∀ {ds : List D} {vs : List V}, RpL Γ M H ds vs → vs.length = ds.length
  | [], vs, h => by rw [RpL] at h; rw [h]; rfl
  | d :: ds, vs, h => by
    rw [RpL] at h
    obtain ⟨v, r, e, _, h2⟩ := h
    rw [e, List.length_cons, List.length_cons, RpL.length h2]
theorem RpL.nil : RpL Γ M H [] [] := by rw [RpL]
theorem RpL.cons {d : D} {v : V} {ds : List D} {vs : List V} (h : Rp Γ M H d v) (t : RpL Γ M H ds vs) : RpL Γ M H (d :: ds) (v :: vs) := by
  rw [RpL]
  exact ⟨v, vs, rfl, h, t⟩
theorem RpL.get : ∀ {ds : List D} {vs : List V} {i : Nat} {d : D}, RpL Γ M H ds vs → ds[i]? = some d → ∃ v, vs[i]? = some v ∧ Rp Γ M H d v
  | [], _, _, _, _, e => by simp at e
  | d :: ds, vs, 0, d', h, e => by
    rw [RpL] at h
    obtain ⟨v, r, rfl, h1, h2⟩ := h
    simp at e
    subst e
    exact ⟨v, rfl, h1⟩
  | d :: ds, vs, i + 1, d', h, e => by
    rw [RpL] at h
    obtain ⟨v, r, rfl, h1, h2⟩ := h
    obtain ⟨u, h3, h4⟩ := RpL.get (i := i) h2 (by simpa using e)
    exact ⟨u, by simpa using h3, h4⟩
theorem RpL.append : ∀ {ds es : List D} {vs us : List V}, RpL Γ M H ds vs → RpL Γ M H es us → RpL Γ M H (ds ++ es) (vs ++ us)
  | [], es, vs, us, h, k => by
    rw [RpL] at h
    rw [h]
    exact k
  | d :: ds, es, vs, us, h, k => by
    rw [RpL] at h
    obtain ⟨v, r, rfl, h1, h2⟩ := h
    exact .cons h1 (RpL.append h2 k)
theorem RpL.set : ∀ {ds : List D} {vs : List V} {d : D} {v : V} (i : Nat), RpL Γ M H ds vs → Rp Γ M H d v → RpL Γ M H (ds.set i d) (vs.set i v)
  | [], vs, d, v, i, h, k => by
    rw [RpL] at h
    rw [h]
    cases i <;> exact .nil
  | d :: ds, vs, d', v', 0, h, k => by
    rw [RpL] at h
    obtain ⟨v, r, rfl, h1, h2⟩ := h
    exact .cons k h2
  | d :: ds, vs, d', v', i + 1, h, k => by
    rw [RpL] at h
    obtain ⟨v, r, rfl, h1, h2⟩ := h
    exact .cons h1 (RpL.set i h2 k)
theorem RpL.take : ∀ {ds : List D} {vs : List V} (n : Nat), RpL Γ M H ds vs → RpL Γ M H (ds.take n) (vs.take n)
  | [], vs, n, h => by
    rw [RpL] at h
    rw [h]
    cases n <;> exact .nil
  | d :: ds, vs, 0, h => .nil
  | d :: ds, vs, n + 1, h => by
    rw [RpL] at h
    obtain ⟨v, r, rfl, h1, h2⟩ := h
    exact .cons h1 (RpL.take n h2)
theorem RpL.drop : ∀ {ds : List D} {vs : List V} (n : Nat), RpL Γ M H ds vs → RpL Γ M H (ds.drop n) (vs.drop n)
  | [], vs, n, h => by
    rw [RpL] at h
    rw [h]
    cases n <;> exact .nil
  | d :: ds, vs, 0, h => h
  | d :: ds, vs, n + 1, h => by
    rw [RpL] at h
    obtain ⟨v, r, rfl, h1, h2⟩ := h
    exact RpL.drop n h2
end
/-! ### the slots -/
inductive Cell where
  | no | val (d : D) | own (ds : List D) | ins (c : Nat) (fs : List D) | held (y : Exn) | par (ds : List D)
def Cell.isOwn : Cell → Bool
  | .own _ => true
  | .ins _ _ => true
  | .par _ => true
  | _ => false
abbrev Env := List Cell
/-- what is fixed while a body runs: the addresses that others own, the instance that an __init__ fills -/
structure Bd where
  M : Addr → Prop
  x : Addr
  dx : Addr
/-- what stands of a held exception's fields -/
def HeldF (Γ : Gam) (y : Exn) (dd : Option Addr) (H : Hp) : Prop := match y.fs with
  | [] => dd = none
  | fs => ∃ a us, dd = some a ∧ H a = some (.xd us) ∧ us.map (·.1) = (Γ.fld y.c).take us.length ∧ ∀ M H', RpL Γ M H' fs (us.map (·.2))
theorem HeldF.keep {Γ : Gam} {y : Exn} {dd : Option Addr} {H H' : Hp} (hx : ∀ a us, H a = some (.xd us) → H' a = some (.xd us)) (h : HeldF Γ y dd H) : HeldF Γ y dd H' := by
  unfold HeldF at h ⊢
  split
  · rename_i e
    rw [e] at h
    exact h
  · rename_i fs e
    revert h
    split
    · rename_i e'
      exact absurd e' e
    · intro h
      obtain ⟨a, us, h1, h2, h3⟩ := h
      exact ⟨a, us, h1, hx a us h2, h3⟩
def COk (Γ : Gam) (B : Bd) (M : Addr → Prop) (H : Hp) : Cell → Option (Option V) → Prop
  | .no, _ => True
  | .val d, s => ∃ v, s = some (some v) ∧ Rp Γ M H d v
  | .own ds, s => ∃ p vs, s = some (some (.ref p)) ∧ H p = some (.lst vs) ∧ RpL Γ M H ds vs
  | .ins c fs, s => ∃ us, s = some (some (.ref B.x)) ∧ H B.x = some (.ins (Γ.cls c) B.dx us) ∧ us.map (·.1) = (Γ.fld c).take us.length ∧ RpL Γ M H fs (us.map (·.2))
  | .held y, s => s = some (some (.ref Γ.ea)) ∧ Γ.ec = .ref (Γ.cls y.c) ∧ HeldF Γ y Γ.ed H
  | .par ds, s => ∃ vs, s = some (some (.ref B.x)) ∧ H B.x = some (.lst vs) ∧ RpL Γ M H ds vs
/-- p is a list (an instance) that the i-th slot owns -/
def OwnAt (σ : St) (ρ : Env) (i : Nat) (p : Addr) : Prop := ∃ c, ρ[i]? = some c ∧ c.isOwn = true ∧ σ[i]? = some (some (.ref p))
def Mx (M0 : Bd) (σ : St) (ρ : Env) : Addr → Prop := fun p => M0.M p ∨ ∃ i, OwnAt σ ρ i p
structure Gd (Γ : Gam) (M0 : Bd) (H0 : Hp) (σ : St) (H : Hp) (ρ : Env) : Prop where
  len : σ.length = ρ.length
  ext : Same H0 H
  m0 : ∀ a, M0.M a → H0 a ≠ none
  cel : ∀ (i : Nat) c, ρ[i]? = some c → COk Γ M0 (Mx M0 σ ρ) H c σ[i]?
  new : ∀ i p, OwnAt σ ρ i p → H0 p = none
  inj : ∀ i j p, OwnAt σ ρ i p → OwnAt σ ρ j p → i = j
section
variable {Γ : Gam} {M M' : Addr → Prop} {M0 : Bd} {H H' H0 : Hp} {σ : St} {ρ : Env} {i : Nat} {d : D} {v : V} {ds : List D}
theorem COk.imp (k : Imp M M' H H') (hk : ∀ p, s = some (some (V.ref p)) → c.isOwn = true → ∀ o, H p = some o → H' p = some o) (hx : ∀ a us, H a = some (.xd us) → H' a = some (.xd us)) (h : COk Γ M0 M H c s) : COk Γ M0 M' H' c s := by
  cases c with
  | held y => exact ⟨h.1, h.2.1, h.2.2.keep hx⟩
  | par ds =>
    obtain ⟨vs, e, h1, r⟩ := h
    exact ⟨vs, e, hk _ e rfl _ h1, RpL.imp k ds vs r⟩
  | no => trivial
  | val d =>
    obtain ⟨v, e, r⟩ := h
    exact ⟨v, e, Rp.imp k d v r⟩
  | own ds =>
    obtain ⟨p, vs, e, h1, r⟩ := h
    exact ⟨p, vs, e, hk p e rfl _ h1, RpL.imp k ds vs r⟩
  | ins c fs =>
    obtain ⟨us, e, h1, n, r⟩ := h
    exact ⟨us, e, hk _ e rfl _ h1, n, RpL.imp k fs _ r⟩
theorem Gd.mono (G : Gd Γ M0 H0 σ H ρ) (e : Same H H') : Gd Γ M0 H0 σ H' ρ :=
  ⟨G.len, G.ext.trans e, G.m0, fun i c q => COk.imp (.mono e) (fun p _ _ o h => e p o h) (fun a us h => e a _ h) (G.cel i c q), G.new, G.inj⟩
theorem Mx.alive (G : Gd Γ M0 H0 σ H ρ) {a : Addr} (h : Mx M0 σ ρ a) : H a ≠ none := by
  rcases h with h | ⟨i, c, h1, h2, h3⟩
  · intro z
    cases q : H0 a with
    | none => exact G.m0 a h q
    | some o => rw [G.ext a o q] at z; cases z
  · have hc := G.cel i c h1
    cases c with
    | no => cases h2
    | val d => cases h2
    | own ds =>
      obtain ⟨p, vs, e, h4, _⟩ := hc
      rw [h3] at e
      cases e
      rw [h4]
      exact fun z => by cases z
    | held y => cases h2
    | par ds =>
      obtain ⟨us, e, h4, _⟩ := hc
      rw [h3] at e
      cases e
      rw [h4]
      exact fun z => by cases z
    | ins c fs =>
      obtain ⟨us, e, h4, _⟩ := hc
      rw [h3] at e
      cases e
      rw [h4]
      exact fun z => by cases z
theorem Gd.val (G : Gd Γ M0 H0 σ H ρ) (h : ρ[i]? = some (.val d)) : ∃ v, σ[i]? = some (some v) ∧ Rp Γ (Mx M0 σ ρ) H d v := G.cel i _ h
theorem own_set_val {p : Addr} {j : Nat} (h : OwnAt (σ.set i (some v)) (ρ.set i (.val d)) j p) : OwnAt σ ρ j p ∧ j ≠ i := by
  obtain ⟨c, h1, h2, h3⟩ := h
  by_cases e : i = j
  · subst e
    rw [List.getElem?_set] at h1
    split at h1
    · split at h1
      · cases h1
        cases h2
      · cases h1
    · rename_i z
      exact (z rfl).elim
  · rw [List.getElem?_set_ne e] at h1 h3
    exact ⟨⟨c, h1, h2, h3⟩, fun z => e z.symm⟩
theorem Gd.set_val (G : Gd Γ M0 H0 σ H ρ) (hi : i < ρ.length) (e : Same H H') (r : Rp Γ (Mx M0 σ ρ) H' d v) : Gd Γ M0 H0 (σ.set i (some v)) H' (ρ.set i (.val d)) := by
  have sub : ∀ a, Mx M0 (σ.set i (some v)) (ρ.set i (.val d)) a → Mx M0 σ ρ a := fun a h => by
    rcases h with h | ⟨j, h⟩
    · exact .inl h
    · exact .inr ⟨j, (own_set_val h).1⟩
  have G' := G.mono e
  refine ⟨by rw [List.length_set, List.length_set, G.len], G'.ext, G.m0, fun j c q => ?_, fun j p h => G.new j p (own_set_val h).1, fun j k p h1 h2 => G.inj j k p (own_set_val h1).1 (own_set_val h2).1⟩
  by_cases z : i = j
  · subst z
    rw [List.getElem?_set_self hi] at q
    cases q
    exact ⟨v, by rw [List.getElem?_set_self (by rw [G.len]; exact hi)], Rp.imp (.weak sub) d v r⟩
  · rw [List.getElem?_set_ne z] at q ⊢
    exact COk.imp (.weak sub) (fun _ _ _ _ h => h) (fun _ _ h => h) (G'.cel j c q)
/-- a new list is owned by a slot -/
theorem own_set_own {p q : Addr} {j : Nat} (h : OwnAt (σ.set i (some (.ref p))) (ρ.set i (.own ds)) j q) : (OwnAt σ ρ j q ∧ j ≠ i) ∨ (j = i ∧ q = p) := by
  obtain ⟨c, h1, h2, h3⟩ := h
  by_cases e : i = j
  · subst e
    refine .inr ⟨rfl, ?_⟩
    rw [List.getElem?_set] at h3
    split at h3
    · split at h3
      · cases h3
        rfl
      · cases h3
    · rename_i z
      exact (z rfl).elim
  · rw [List.getElem?_set_ne e] at h1 h3
    exact .inl ⟨⟨c, h1, h2, h3⟩, fun z => e z.symm⟩
theorem Gd.set_own {p : Addr} {vs : List V} (G : Gd Γ M0 H0 σ H ρ) (hi : i < ρ.length) (e : Same H H') (hp : H p = none) (hv : H' p = some (.lst vs)) (r : RpL Γ (fun a => Mx M0 σ ρ a ∨ a = p) H' ds vs) :
    Gd Γ M0 H0 (σ.set i (some (.ref p))) H' (ρ.set i (.own ds)) := by
  have sub : ∀ a, Mx M0 (σ.set i (some (.ref p))) (ρ.set i (.own ds)) a → Mx M0 σ ρ a ∨ a = p := fun a h => by
    rcases h with h | ⟨j, h⟩
    · exact .inl (.inl h)
    · rcases own_set_own h with h | h
      · exact .inl (.inr ⟨j, h.1⟩)
      · exact .inr h.2
  have imp : Imp (Mx M0 σ ρ) (Mx M0 (σ.set i (some (.ref p))) (ρ.set i (.own ds))) H H' := fun a o h n => ⟨fun z => (sub a z).elim n fun q => (by rw [q, hp] at h; cases h), e a o h⟩
  have hp0 : H0 p = none := by
    cases q : H0 p with
    | none => rfl
    | some o => rw [G.ext p o q] at hp; cases hp
  have notOld : ∀ j, ¬ OwnAt σ ρ j p := fun j h => Mx.alive G (.inr ⟨j, h⟩) hp
  refine ⟨by rw [List.length_set, List.length_set, G.len], G.ext.trans e, G.m0, fun j c q => ?_, fun j q h => ?_, fun j k q h1 h2 => ?_⟩
  · by_cases z : i = j
    · subst z
      rw [List.getElem?_set_self hi] at q
      cases q
      exact ⟨p, vs, by rw [List.getElem?_set_self (by rw [G.len]; exact hi)], hv, RpL.imp (.weak sub) ds vs r⟩
    · rw [List.getElem?_set_ne z] at q ⊢
      exact COk.imp imp (fun p _ _ o h => e p o h) (fun a us h => e a _ h) (G.cel j c q)
  · rcases own_set_own h with h | h
    · exact G.new j q h.1
    · rw [h.2]; exact hp0
  · rcases own_set_own h1 with h1 | h1
    · rcases own_set_own h2 with h2 | h2
      · exact G.inj j k q h1.1 h2.1
      · rw [h2.2] at h1
        exact (notOld j h1.1).elim
    · rcases own_set_own h2 with h2 | h2
      · rw [h1.2] at h2
        exact (notOld k h2.1).elim
      · rw [h1.1, h2.1]
/-- the list that a slot owns is changed -/
theorem Gd.mut {p : Addr} {es : List D} {vs : List V} (G : Gd Γ M0 H0 σ H ρ) (h : ρ[i]? = some (.own ds)) (hs : σ[i]? = some (some (.ref p))) (r : RpL Γ (Mx M0 σ ρ) H es vs) :
    Gd Γ M0 H0 σ (upd H p (.lst vs)) (ρ.set i (.own es)) := by
  have hi : i < ρ.length := (List.getElem?_eq_some_iff.mp h).1
  have same : ∀ j q, OwnAt σ (ρ.set i (.own es)) j q ↔ OwnAt σ ρ j q := fun j q => by
    by_cases z : i = j
    · subst z
      constructor
      · rintro ⟨c, h1, h2, h3⟩
        exact ⟨_, h, rfl, h3⟩
      · rintro ⟨c, h1, h2, h3⟩
        exact ⟨_, List.getElem?_set_self hi, rfl, h3⟩
    · unfold OwnAt
      rw [List.getElem?_set_ne z]
  have own : OwnAt σ ρ i p := ⟨_, h, rfl, hs⟩
  have sub : ∀ a, Mx M0 σ (ρ.set i (.own es)) a → Mx M0 σ ρ a := fun a h => by
    rcases h with h | ⟨j, h⟩
    · exact .inl h
    · exact .inr ⟨j, (same j a).mp h⟩
  have imp : Imp (Mx M0 σ ρ) (Mx M0 σ (ρ.set i (.own es))) H (upd H p (.lst vs)) := fun a o e n => ⟨fun z => n (sub a z), by
    rw [upd_ne (fun q => n (by rw [q]; exact .inr ⟨i, own⟩))]
    exact e⟩
  refine ⟨by rw [List.length_set, G.len], fun a o e => ?_, G.m0, fun j c q => ?_, fun j q h => G.new j q ((same j q).mp h), fun j k q h1 h2 => G.inj j k q ((same j q).mp h1) ((same k q).mp h2)⟩
  · rw [upd_ne (fun q => by rw [q, G.new i p own] at e; cases e)]
    exact G.ext a o e
  · by_cases z : i = j
    · subst z
      rw [List.getElem?_set_self hi] at q
      cases q
      exact ⟨p, vs, hs, upd_same, RpL.imp imp es vs r⟩
    · rw [List.getElem?_set_ne z] at q
      refine COk.imp imp (fun p' e1 e2 o e3 => ?_) (fun a us e3 => ?_) (G.cel j c q)
      · rw [upd_ne (fun e4 => z (G.inj i j p own ⟨c, q, e2, by rw [e1, e4]⟩))]
        exact e3
      · obtain ⟨p', vs0, e4, e5, _⟩ := G.cel i _ h
        rw [hs] at e4
        cases e4
        rw [upd_ne fun e6 => by rw [e6, e5] at e3; cases e3]
        exact e3
/-- the list that a slot owns is changed, and there may be more in the heap -/
theorem Gd.mutS {p : Addr} {c c' : Cell} {es : List D} {vs : List V} (G : Gd Γ M0 H0 σ H ρ) (h : ρ[i]? = some c) (hc : (∃ ds, c = .own ds ∧ c' = .own es) ∨ (∃ ds, c = .par ds ∧ c' = .par es ∧ p = M0.x)) (hs : σ[i]? = some (some (.ref p)))
    (e : ∀ b o, b ≠ p → H b = some o → H' b = some o) (hp : H' p = some (.lst vs)) (r : RpL Γ (Mx M0 σ ρ) H' es vs) : Gd Γ M0 H0 σ H' (ρ.set i c') := by
  have hi : i < ρ.length := (List.getElem?_eq_some_iff.mp h).1
  have ho : c.isOwn = true := by rcases hc with ⟨_, h, _⟩ | ⟨_, h, _⟩ <;> rw [h] <;> rfl
  have ho' : c'.isOwn = true := by rcases hc with ⟨_, _, h⟩ | ⟨_, _, h, _⟩ <;> rw [h] <;> rfl
  have same : ∀ j q, OwnAt σ (ρ.set i c') j q ↔ OwnAt σ ρ j q := fun j q => by
    by_cases z : i = j
    · subst z
      constructor
      · rintro ⟨c, h1, h2, h3⟩
        exact ⟨_, h, ho, h3⟩
      · rintro ⟨c, h1, h2, h3⟩
        exact ⟨_, List.getElem?_set_self hi, ho', h3⟩
    · unfold OwnAt
      rw [List.getElem?_set_ne z]
  have own : OwnAt σ ρ i p := ⟨_, h, ho, hs⟩
  have sub : ∀ a, Mx M0 σ (ρ.set i c') a → Mx M0 σ ρ a := fun a h => by
    rcases h with h | ⟨j, h⟩
    · exact .inl h
    · exact .inr ⟨j, (same j a).mp h⟩
  have imp : Imp (Mx M0 σ ρ) (Mx M0 σ (ρ.set i c')) H H' := fun a o q n => ⟨fun z => n (sub a z), e a o (fun q => n (by rw [q]; exact .inr ⟨i, own⟩)) q⟩
  refine ⟨by rw [List.length_set, G.len], fun a o q => e a o (fun z => by rw [z, G.new i p own] at q; cases q) (G.ext a o q), G.m0, fun j c q => ?_, fun j q h => G.new j q ((same j q).mp h), fun j k q h1 h2 => G.inj j k q ((same j q).mp h1) ((same k q).mp h2)⟩
  by_cases z : i = j
  · subst z
    rw [List.getElem?_set_self hi] at q
    cases q
    have r' : RpL Γ (Mx M0 σ (ρ.set i c')) H' es vs := RpL.imp (.weak sub) es vs r
    rcases hc with ⟨_, _, h⟩ | ⟨_, _, h, hx⟩
    · rw [h] at r' ⊢; exact ⟨p, vs, hs, hp, r'⟩
    · rw [h] at r' ⊢; exact ⟨vs, by rw [← hx]; exact hs, by rw [← hx]; exact hp, r'⟩
  · rw [List.getElem?_set_ne z] at q
    refine COk.imp imp (fun p' e1 e2 o e3 => ?_) (fun a us e3 => ?_) (G.cel j c q)
    · exact e p' o (fun e4 => z (G.inj i j p own ⟨c, q, e2, by rw [e1, e4]⟩)) e3
    · refine e a _ (fun e6 => ?_) e3
      have hi := G.cel i _ h
      rcases hc with ⟨_, h, _⟩ | ⟨_, h, _, hx⟩
      · rw [h] at hi
        obtain ⟨p', vs0, e4, e5, _⟩ := hi
        rw [hs] at e4
        cases e4
        rw [e6, e5] at e3
        cases e3
      · rw [h] at hi
        obtain ⟨vs0, _, e5, _⟩ := hi
        rw [e6, hx, e5] at e3
        cases e3
end
set_option Elab.async false
set_option linter.all false
set_option maxRecDepth 100000
set_option maxHeartbeats 4000000
/-! ### judgements: a piece of syntax and the pure function of the slots that it computes -/
open PySem L2
structure Sit (Γ : Gam) (k : Nat) (X : Cx) (W : WX) : Prop where
  P : X.prog = Γ.P
  w : X.w = Γ.w
  K : X.K = Γ.K
  mg : X.mg = Γ.mg
  base : X.base = Γ.base
  room : 0 < k → Room k X.A
  calm : 0 < k → X.calm = true
  takes : Takes X W
  pas : PassesOwn (model X.prog X.w) X.A X.env X.xe
  nd : X.N.Nodup
  seer : 0 < k → ∀ h : Heap, X.A.frames = some X.stack → h.NoSeer → SeerAt (model X.prog X.w) X.A h
  ns : X.base.NoSeer
/-- an exception of the class x.c with the fields x.fs -/
def RpX (Γ : Gam) (x : Exn) (cv : Value) (dd : Option Addr) (H : Hp) : Prop :=
  cv = .ref (Γ.cls x.c) ∧ match x.fs with
    | [] => dd = none
    | fs => ∃ a us, dd = some a ∧ H a = some (.xd us) ∧ us.map (·.1) = (Γ.fld x.c).take us.length ∧ RpL Γ (fun _ => False) H fs (us.map (·.2))
theorem RpX.mono {Γ : Gam} {x : Exn} {cv : Value} {dd : Option Addr} {H H' : Hp} (e : Same H H') (h : RpX Γ x cv dd H) : RpX Γ x cv dd H' := by
  obtain ⟨h1, h2⟩ := h
  refine ⟨h1, ?_⟩
  cases q : x.fs with
  | nil => rw [q] at h2; exact h2
  | cons f fs =>
    rw [q] at h2
    obtain ⟨a, us, h3, h4, h5, h6⟩ := h2
    exact ⟨a, us, h3, e a _ h4, h5, h6.mono e⟩
def PostX (Γ : Gam) (W : WX) (σ : St) (H : Hp) (x : Exn) : Prop := ∀ cv dd H', Same H H' → RpX Γ x cv dd H' → W cv dd σ H'
theorem PostX.mono {Γ : Gam} {W : WX} {σ : St} {H H' : Hp} {x : Exn} (h : PostX Γ W σ H x) (e : Same H H') : PostX Γ W σ H' x := fun cv dd H1 e1 r => h cv dd H1 (e.trans e1) r
def Post {α : Type} (Γ : Gam) (W : WX) (σ : St) (H : Hp) (r : Res α) (Q : α → Prop) : Prop := match r with
  | .stuck => False
  | .ok a => Q a
  | .exc x => PostX Γ W σ H x
theorem Post.bind {α β : Type} {Γ : Gam} {W : WX} {σ : St} {H : Hp} {r : Res α} {f : α → Res β} {Q : β → Prop} (h : Post Γ W σ H (r.bind f) Q) : Post Γ W σ H r fun a => Post Γ W σ H (f a) Q := by
  cases r with
  | stuck => exact h
  | ok a => exact h
  | exc x => exact h
theorem Post.imp {α : Type} {Γ : Gam} {W : WX} {σ : St} {H H' : Hp} {r : Res α} {Q Q' : α → Prop} (h : Post Γ W σ H r Q) (e : Same H H') (k : ∀ a, Q a → Q' a) : Post Γ W σ H' r Q' := by
  cases r with
  | stuck => exact h
  | ok a => exact k a h
  | exc x => exact PostX.mono h e
/-- an expression gives a datum -/
def WantE (Γ : Gam) (M : Addr → Prop) (H : Hp) (Q : VK) (d : D) : Prop := ∀ v H', Same H H' → Rp Γ M H' d v → Q v H'
def WantB (H : Hp) (Q : Bool → Hp → Prop) (b : Bool) : Prop := ∀ H', Same H H' → Q b H'
def WantA (Γ : Gam) (M : Addr → Prop) (H : Hp) (Q : List V → Hp → Prop) (ds : List D) : Prop := ∀ vs H', Same H H' → RpL Γ M H' ds vs → Q vs H'
/-- a new list -/
def WantF (Γ : Gam) (M : Addr → Prop) (H : Hp) (Q : VK) (ds : List D) : Prop := ∀ p vs H', H p = none → Same H H' → H' p = some (.lst vs) → RpL Γ (fun a => M a ∨ a = p) H' ds vs → Q (.ref p) H'
def DE (Γ : Gam) (k : Nat) (X : Cx) (W : WX) (e : Expr) (f : Env → Res D) : Prop := Sit Γ k X W → ∃ te : TE, PE X e te ∧
  ∀ M0 H0 σ H ρ Q, Gd Γ M0 H0 σ H ρ → Post Γ W σ H (f ρ) (WantE Γ (Mx M0 σ ρ) H Q) → te σ H Q
def DF (Γ : Gam) (k : Nat) (X : Cx) (W : WX) (e : Expr) (f : Env → Res (List D)) : Prop := Sit Γ k X W → ∃ te : TE, PE X e te ∧
  ∀ M0 H0 σ H ρ Q, Gd Γ M0 H0 σ H ρ → Post Γ W σ H (f ρ) (WantF Γ (Mx M0 σ ρ) H Q) → te σ H Q
def DT (Γ : Gam) (k : Nat) (X : Cx) (W : WX) (e : Expr) (f : Env → Res Bool) : Prop := Sit Γ k X W → ∃ tt : TT, PT X e tt ∧
  ∀ M0 H0 σ H ρ Q, Gd Γ M0 H0 σ H ρ → Post Γ W σ H (f ρ) (WantB H Q) → tt σ H Q
def DA (Γ : Gam) (k : Nat) (X : Cx) (W : WX) (es : List Expr) (f : Env → Res (List D)) : Prop := Sit Γ k X W → ∃ ta : TA, PA X es ta ∧
  ∀ M0 H0 σ H ρ Q, Gd Γ M0 H0 σ H ρ → Post Γ W σ H (f ρ) (WantA Γ (Mx M0 σ ρ) H Q) → ta σ H Q
inductive Out where
  | stuck | next (ρ : Env) | ret (d : D) | retF (ds : List D) | exc (x : Exn) (ρ : Env) | brk (ρ : Env) | cnt (ρ : Env) | retP (ds : List D) (d : D)
def PostS (Γ : Gam) (M0 : Bd) (H0 : Hp) (W : WX) (D : Ends) : Out → Prop
  | .stuck => False
  | .next ρ => ∀ σ H, Gd Γ M0 H0 σ H ρ → D.nx σ H
  | .ret d => ∀ v H, Same H0 H → Rp Γ M0.M H d v → D.rt v H
  | .retF ds => ∀ p vs H, H0 p = none → Same H0 H → H p = some (.lst vs) → RpL Γ (fun a => M0.M a ∨ a = p) H ds vs → D.rt (.ref p) H
  | .exc x ρ => ∀ cv dd σ H, Gd Γ M0 H0 σ H ρ → RpX Γ x cv dd H → W cv dd σ H
  | .brk ρ => ∀ σ H, Gd Γ M0 H0 σ H ρ → D.bk σ H
  | .cnt ρ => ∀ σ H, Gd Γ M0 H0 σ H ρ → D.ct σ H
  | .retP ds d => ∀ v us H, Same H0 H → H M0.x = some (.lst us) → RpL Γ (fun a => M0.M a ∨ a = M0.x) H ds us → Rp Γ (fun a => M0.M a ∨ a = M0.x) H d v → D.rt v H
def DS (Γ : Gam) (k : Nat) (X : Cx) (W : WX) (s : Stmt) (f : Env → Out) : Prop := Sit Γ k X W → ∃ ts : TS, PS X s ts ∧
  ∀ M0 H0 σ H ρ D, Gd Γ M0 H0 σ H ρ → PostS Γ M0 H0 W D (f ρ) → ts D σ H
def DSs (Γ : Gam) (k : Nat) (X : Cx) (W : WX) (s : List Stmt) (f : Env → Out) : Prop := Sit Γ k X W → ∃ ts : TS, PSs X s ts ∧
  ∀ M0 H0 σ H ρ D, Gd Γ M0 H0 σ H ρ → PostS Γ M0 H0 W D (f ρ) → ts D σ H

/-! ### the pure side -/
namespace E
def var (i : Nat) : Env → Res D := fun ρ => match ρ[i]? with
  | some (.val d) => .ok d
  | _ => .stuck
def c (d : D) : Env → Res D := fun _ => .ok d
def op2 (g : D → D → Res D) (f h : Env → Res D) : Env → Res D := fun ρ => (f ρ).bind fun x => (h ρ).bind fun y => g x y
def op1 (g : D → Res D) (f : Env → Res D) : Env → Res D := fun ρ => (f ρ).bind g
def nil : Env → Res (List D) := fun _ => .ok []
def cons (f : Env → Res D) (g : Env → Res (List D)) : Env → Res (List D) := fun ρ => (f ρ).bind fun x => (g ρ).bind fun xs => .ok (x :: xs)
def app (g : List D → Res D) (f : Env → Res (List D)) : Env → Res D := fun ρ => (f ρ).bind g
def appF (g : List D → Res (List D)) (f : Env → Res (List D)) : Env → Res (List D) := fun ρ => (f ρ).bind g
def lst (f : Env → Res (List D)) : Env → Res D := fun ρ => (f ρ).bind fun ds => .ok (.lst ds)
end E
namespace T
def tst (f : Env → Res D) : Env → Res Bool := fun ρ => (f ρ).bind fun x => match x with
  | .bl b => .ok b
  | _ => .stuck
def and (f g : Env → Res Bool) : Env → Res Bool := fun ρ => (f ρ).bind fun b => if b = true then g ρ else .ok false
def or (f g : Env → Res Bool) : Env → Res Bool := fun ρ => (f ρ).bind fun b => if b = true then .ok true else g ρ
def not (f : Env → Res Bool) : Env → Res Bool := fun ρ => (f ρ).bind fun b => .ok (!b)
end T
namespace S
def skip : Env → Out := fun ρ => .next ρ
def brk : Env → Out := fun ρ => .brk ρ
def cnt : Env → Out := fun ρ => .cnt ρ
def lift {α : Type} (r : Res α) (ρ : Env) (k : α → Out) : Out := match r with
  | .stuck => .stuck
  | .ok a => k a
  | .exc x => .exc x ρ
def seq (f g : Env → Out) : Env → Out := fun ρ => match f ρ with
  | .next ρ' => g ρ'
  | o => o
def set (i : Nat) (f : Env → Res D) : Env → Out := fun ρ => lift (f ρ) ρ fun d => if i < ρ.length then .next (List.set ρ i (.val d)) else .stuck
def setF (i : Nat) (f : Env → Res (List D)) : Env → Out := fun ρ => lift (f ρ) ρ fun ds => if i < ρ.length then .next (List.set ρ i (.own ds)) else .stuck
def expr (f : Env → Res D) : Env → Out := fun ρ => lift (f ρ) ρ fun _ => .next ρ
def ret (f : Env → Res D) : Env → Out := fun ρ => lift (f ρ) ρ fun d => .ret d
def retF (f : Env → Res (List D)) : Env → Out := fun ρ => lift (f ρ) ρ fun d => .retF d
def retN : Env → Out := fun _ => .ret .non
def retO (i : Nat) : Env → Out := fun ρ => match ρ[i]? with
  | some (.own ds) => .retF ds
  | _ => .stuck
def ite (c : Env → Res Bool) (f g : Env → Out) : Env → Out := fun ρ => lift (c ρ) ρ fun b => if b = true then f ρ else g ρ
/-- while, at most n turns -/
def whileN (c : Env → Res Bool) (b : Env → Out) : Nat → Env → Out
  | 0, _ => .stuck
  | n + 1, ρ => lift (c ρ) ρ fun t => if t = true then (match b ρ with
    | .next ρ' => whileN c b n ρ'
    | .cnt ρ' => whileN c b n ρ'
    | .brk ρ' => .next ρ'
    | o => o) else .next ρ
def whil (n : Env → Nat) (c : Env → Res Bool) (b : Env → Out) : Env → Out := fun ρ => whileN c b (n ρ) ρ
/-- for, over written data; g stores an item -/
def forL (g : D → Env → Option Env) (b : Env → Out) : List D → Env → Out
  | [], ρ => .next ρ
  | d :: ds, ρ => match g d ρ with
    | none => .stuck
    | some ρ1 => match b ρ1 with
      | .next ρ' => forL g b ds ρ'
      | .cnt ρ' => forL g b ds ρ'
      | .brk ρ' => .next ρ'
      | o => o
def forE (it : Env → Res (List D)) (g : D → Env → Option Env) (b : Env → Out) : Env → Out := fun ρ => lift (it ρ) ρ fun ds => forL g b ds ρ
def tgt (i : Nat) : D → Env → Option Env := fun d ρ => if i < ρ.length then some (List.set ρ i (.val d)) else none
def gnil : List D → Env → Option Env := fun ds ρ => match ds with
  | [] => some ρ
  | _ => none
def gcons (f : D → Env → Option Env) (g : List D → Env → Option Env) : List D → Env → Option Env := fun ds ρ => match ds with
  | d :: r => (f d ρ).bind (g r)
  | _ => none
def gtup (n : Nat) (f : List D → Env → Option Env) : D → Env → Option Env := fun d ρ => match d with
  | .tup ds => if ds.length = n then f ds ρ else none
  | _ => none
/-- x, y = a tuple -/
def asg (g : D → Env → Option Env) (f : Env → Res D) : Env → Out := fun ρ => lift (f ρ) ρ fun d => match g d ρ with
  | some ρ' => .next ρ'
  | none => .stuck
end S

/-! ### basic rules -/
section
variable {Γ : Gam} {k : Nat} {X : Cx} {W : WX}
theorem tr {a b : Hp} (e : Same a b) {c : Hp} (f : Same b c) : Same a c := Same.trans e f
theorem de_var (i : Nat) {x : Str} {pos : Pos} (hN : X.N[i]? = some x := by rfl) (hv : Vis X.env.scope x := by first | exact Or.inl rfl | exact Or.inr (Or.inl rfl) | exact Or.inr (Or.inr rfl)) (hd : (x == ("__debug__" : Str)) = false := by decide)
    (hcd : (x == ("__classdict__" : Str)) = false := by decide) : DE Γ k X W (.Name x pos) (E.var i) := fun S => by
  refine ⟨_, pe_var hN hv hd hcd, fun M0 H0 σ H ρ Q G h => ?_⟩
  unfold E.var at h
  cases q : ρ[i]? with
  | none => rw [q] at h; exact h.elim
  | some c =>
    rw [q] at h
    cases c with
    | val d =>
      obtain ⟨v, e, r⟩ := G.val q
      exact ⟨v, e, h v H (Same.refl H) r⟩
    | no => exact h.elim
    | own ds => exact h.elim
    | ins c fs => exact h.elim
    | held y => exact h.elim
    | par ds => exact h.elim
theorem de_int {i : Int} {j : Nat} {pos : Pos} : DE Γ k X W (.Constant (.int i) j pos) (E.c (.int i)) := fun S =>
  ⟨_, pe_int, fun M0 H0 σ H ρ Q G h => h _ H (Same.refl H) (by rw [Rp])⟩
theorem de_str {x : Str} {j : Nat} {pos : Pos} : DE Γ k X W (.Constant (.str x) j pos) (E.c (.str x)) := fun S =>
  ⟨_, pe_str, fun M0 H0 σ H ρ Q G h => h _ H (Same.refl H) (by rw [Rp])⟩
theorem de_bl {b : Bool} {j : Nat} {pos : Pos} : DE Γ k X W (.Constant (.bool b) j pos) (E.c (.bl b)) := fun S =>
  ⟨_, pe_bl, fun M0 H0 σ H ρ Q G h => h _ H (Same.refl H) (by rw [Rp])⟩
theorem de_non {j : Nat} {pos : Pos} : DE Γ k X W (.Constant .none j pos) (E.c .non) := fun S =>
  ⟨_, pe_non, fun M0 H0 σ H ρ Q G h => h _ H (Same.refl H) (by rw [Rp])⟩
theorem de_lst {e : Expr} {f : Env → Res (List D)} (h : DF Γ k X W e f) : DE Γ k X W e (E.lst f) := fun S => by
  obtain ⟨te, pe, r⟩ := h S
  refine ⟨te, pe, fun M0 H0 σ H ρ Q G h => r M0 H0 σ H ρ Q G ?_⟩
  refine (Post.bind h).imp (Same.refl H) fun ds q p vs H' h1 h2 h3 h4 => q _ H' h2 ?_
  rw [Rp]
  exact ⟨p, vs, rfl, .inl ⟨.inl h3, fun z => Mx.alive G z h1⟩, RpL.imp (.weak fun a z => .inl z) ds vs h4⟩
/-- a two-place operation by values -/
def OpD (Γ : Gam) (k : Nat) (X : Cx) (W : WX) (f : Value → Value → Sem Value) (g : D → D → Res D) : Prop := Sit Γ k X W → ∃ r : R2, OpR X f r ∧
  ∀ (M : Addr → Prop) (H : Hp) (x y : V) (a b : D) (Q : VK), (∀ a, M a → H a ≠ none) → Rp Γ M H a x → Rp Γ M H b y → Post Γ (fun _ _ _ _ => False) [] H (g a b) (WantE Γ M H Q) → r x y H Q
theorem no_exc {α : Type} {Γ : Gam} {W W' : WX} {σ σ' : St} {H : Hp} {r : Res α} {Q : α → Prop} (h : Post Γ W σ H r Q) (n : ∀ x, r ≠ .exc x) : Post Γ W' σ' H r Q := by
  cases r with
  | stuck => exact h
  | ok a => exact h
  | exc x => exact (n x rfl).elim
theorem WantE.back {Γ : Gam} {M : Addr → Prop} {H H' : Hp} {Q : VK} {d : D} (e : Same H H') (h : WantE Γ M H Q d) : WantE Γ M H' Q d := fun v H1 e1 r => h v H1 (e.trans e1) r
/-- two operands from the left, then a rule by values -/
theorem two {f h : Env → Res D} {g : D → D → Res D} {ta tb : TE} {r : R2} {M0 : Bd} {H0 : Hp} {σ : St} {H : Hp} {ρ : Env} {Q : VK}
    (ra : ∀ M0 H0 σ H ρ Q, Gd Γ M0 H0 σ H ρ → Post Γ W σ H (f ρ) (WantE Γ (Mx M0 σ ρ) H Q) → ta σ H Q)
    (rb : ∀ M0 H0 σ H ρ Q, Gd Γ M0 H0 σ H ρ → Post Γ W σ H (h ρ) (WantE Γ (Mx M0 σ ρ) H Q) → tb σ H Q)
    (rr : ∀ (M : Addr → Prop) (H : Hp) (x y : V) (a b : D) (Q : VK), (∀ a, M a → H a ≠ none) → Rp Γ M H a x → Rp Γ M H b y → Post Γ W σ H (g a b) (WantE Γ M H Q) → r x y H Q)
    (G : Gd Γ M0 H0 σ H ρ) (q : Post Γ W σ H (E.op2 g f h ρ) (WantE Γ (Mx M0 σ ρ) H Q)) : tOp r ta tb σ H Q := by
  refine ra M0 H0 σ H ρ _ G ((Post.bind q).imp (Same.refl H) fun d q1 v H1 e1 r1 => ?_)
  have G1 := G.mono e1
  refine rb M0 H0 σ H1 ρ _ G1 ((Post.bind q1).imp e1 fun d2 q2 v2 H2 e2 r2 => ?_)
  refine rr (Mx M0 σ ρ) H2 v v2 d d2 Q (fun a z => Mx.alive (G1.mono e2) z) (r1.mono e2) r2 (q2.imp (e1.trans e2) fun d3 q3 => q3.back (e1.trans e2))
theorem de_op2 {op : Operator} {a b : Expr} {f h : Env → Res D} {g : D → D → Res D} {pos : Pos} (o : OpD Γ k X W (binaryOp op) g) (n : ∀ x y z, g x y ≠ .exc z) (ha : DE Γ k X W a f) (hb : DE Γ k X W b h) : DE Γ k X W (.BinOp a op b pos) (E.op2 g f h) := fun S => by
  obtain ⟨ta, pa, ra⟩ := ha S
  obtain ⟨tb, pb, rb⟩ := hb S
  obtain ⟨r, or, rr⟩ := o S
  exact ⟨_, pe_op or pa pb, fun M0 H0 σ H ρ Q G q => two ra rb (fun M H x y a b Q m r1 r2 q => rr M H x y a b Q m r1 r2 (no_exc q (n a b))) G q⟩
theorem de_cmp {op : CmpOp} {a b : Expr} {f h : Env → Res D} {g : D → D → Res D} {pos : Pos} (o : OpD Γ k X W (compareOp op) g) (n : ∀ x y z, g x y ≠ .exc z) (ha : DE Γ k X W a f) (hb : DE Γ k X W b h) (hm : behindInMarks op b = false) :
    DE Γ k X W (.Compare a [op] [b] pos) (E.op2 g f h) := fun S => by
  obtain ⟨ta, pa, ra⟩ := ha S
  obtain ⟨tb, pb, rb⟩ := hb S
  obtain ⟨r, or, rr⟩ := o S
  exact ⟨_, pe_cmpR or pa pb hm, fun M0 H0 σ H ρ Q G q => two ra rb (fun M H x y a b Q m r1 r2 q => rr M H x y a b Q m r1 r2 (no_exc q (n a b))) G q⟩
theorem dt_cmp {op : CmpOp} {a b : Expr} {f h : Env → Res D} {g : D → D → Res D} {pos : Pos} (o : OpD Γ k X W (compareOp op) g) (n : ∀ x y z, g x y ≠ .exc z) (ha : DE Γ k X W a f) (hb : DE Γ k X W b h) (hm : behindInMarks op b = false) :
    DT Γ k X W (.Compare a [op] [b] pos) (T.tst (E.op2 g f h)) := fun S => by
  obtain ⟨ta, pa, ra⟩ := ha S
  obtain ⟨tb, pb, rb⟩ := hb S
  obtain ⟨r, or, rr⟩ := o S
  refine ⟨_, pt_cmpR or pa pb hm, fun M0 H0 σ H ρ Q G q => ?_⟩
  refine two ra rb (fun M H x y a b Q m r1 r2 q => rr M H x y a b Q m r1 r2 (no_exc q (n a b))) G ((Post.bind q).imp (Same.refl H) fun d q1 v H1 e1 r1 => ?_)
  cases d with
  | bl b =>
    rw [Rp] at r1
    exact ⟨b, r1, q1 H1 e1⟩
  | _ => exact q1.elim
/-- an expression as a test -/
theorem dt_val {e : Expr} {f : Env → Res D} (h : DE Γ k X W e f) (he : ∀ whole, isTrue e X.env whole = (do let v ← whole; standAt e.pos; holding [v] (truthy v)) := by intro _; rfl) : DT Γ k X W e (T.tst f) := fun S => by
  obtain ⟨te, pe, r⟩ := h S
  refine ⟨_, pt_val pe he, fun M0 H0 σ H ρ Q G q => ?_⟩
  refine r M0 H0 σ H ρ _ G ((Post.bind q).imp (Same.refl H) fun d q1 v H1 e1 r1 => ?_)
  cases d with
  | bl b =>
    rw [Rp] at r1
    exact ⟨b, r1, q1 H1 e1⟩
  | _ => exact q1.elim
/-! ### ints -/
end
def intD (g : Int → Int → Res D) : D → D → Res D
  | .int i, .int j => g i j
  | _, _ => .stuck
instance (i j : Int) : Decidable (PySem.IntMulOk i j) := by unfold PySem.IntMulOk; infer_instance
def addI : D → D → Res D := intD fun i j => .ok (.int (i + j))
def subI : D → D → Res D := intD fun i j => .ok (.int (i - j))
def mulI : D → D → Res D := intD fun i j => if PySem.IntMulOk i j then .ok (.int (i * j)) else .stuck
def fdivI : D → D → Res D := intD fun i j => if j ≠ 0 then .ok (.int (i.fdiv j)) else .stuck
def modI : D → D → Res D := intD fun i j => if j ≠ 0 then .ok (.int (i.fmod j)) else .stuck
instance (i j : Int) : Decidable (CPow i j) := by unfold CPow; infer_instance
def powI : D → D → Res D := intD fun i j => if CPow i j then .ok (.int (i ^ j.toNat)) else .stuck
def ltI : D → D → Res D := intD fun i j => .ok (.bl (decide (i < j)))
def leI : D → D → Res D := intD fun i j => .ok (.bl (decide (i ≤ j)))
def gtI : D → D → Res D := intD fun i j => .ok (.bl (decide (j < i)))
def geI : D → D → Res D := intD fun i j => .ok (.bl (decide (j ≤ i)))
theorem intD_exc {g : Int → Int → Res D} (h : ∀ i j z, g i j ≠ .exc z) (x y : D) (z : Exn) : intD g x y ≠ .exc z := by
  cases x <;> cases y <;> first | exact h _ _ z | exact fun q => nomatch q
theorem addI_n (x y z) : addI x y ≠ .exc z := intD_exc (fun i j z q => by cases q) x y z
theorem subI_n (x y z) : subI x y ≠ .exc z := intD_exc (fun i j z q => by cases q) x y z
theorem mulI_n (x y z) : mulI x y ≠ .exc z := intD_exc (fun i j z q => by split at q <;> cases q) x y z
theorem fdivI_n (x y z) : fdivI x y ≠ .exc z := intD_exc (fun i j z q => by split at q <;> cases q) x y z
theorem modI_n (x y z) : modI x y ≠ .exc z := intD_exc (fun i j z q => by split at q <;> cases q) x y z
theorem powI_n (x y z) : powI x y ≠ .exc z := intD_exc (fun i j z q => by split at q <;> cases q) x y z
theorem ltI_n (x y z) : ltI x y ≠ .exc z := intD_exc (fun i j z q => by cases q) x y z
theorem leI_n (x y z) : leI x y ≠ .exc z := intD_exc (fun i j z q => by cases q) x y z
theorem gtI_n (x y z) : gtI x y ≠ .exc z := intD_exc (fun i j z q => by cases q) x y z
theorem geI_n (x y z) : geI x y ≠ .exc z := intD_exc (fun i j z q => by cases q) x y z
section
variable {Γ : Gam} {k : Nat} {X : Cx} {W : WX}
theorem opd_int {f : Value → Value → Sem Value} {g : Int → Int → Res D} {r : R2} (o : Sit Γ k X W → OpR X f r)
    (h : ∀ i j H Q, Post Γ (fun _ _ _ _ => False) [] H (g i j) (fun d => ∀ v, (∀ M, Rp Γ M H d v) → Q v H) → r (.int i) (.int j) H Q) (n : ∀ i j z, g i j ≠ .exc z) (flat : ∀ i j d, g i j = .ok d → ∃ v, ∀ M H, Rp Γ M H d v) : OpD Γ k X W f (intD g) := fun S => by
  refine ⟨r, o S, fun M H x y a b Q m r1 r2 q => ?_⟩
  cases a <;> cases b <;> first | exact q.elim | skip
  rw [Rp] at r1 r2
  rw [r1, r2]
  exact h _ _ _ _ (q.imp (Same.refl H) fun d w v z => w v H (Same.refl H) (z M))
theorem od_add : OpD Γ k X W (binaryOp .Add) addI := opd_int (fun _ => op_add) (fun i j H Q h => ⟨i, j, rfl, rfl, h _ fun M => by rw [Rp]⟩) (fun i j z q => by cases q) (fun i j d q => by cases q; exact ⟨_, fun M H => by rw [Rp]⟩)
theorem od_sub : OpD Γ k X W (binaryOp .Sub) subI := opd_int (fun _ => op_sub) (fun i j H Q h => ⟨i, j, rfl, rfl, h _ fun M => by rw [Rp]⟩) (fun i j z q => by cases q) (fun i j d q => by cases q; exact ⟨_, fun M H => by rw [Rp]⟩)
theorem op_mulF : OpR X (binaryOp .Mult) (rI PySem.IntMulOk fun i j => .int (i * j)) := opI fun _ _ _ _ _ _ _ hc q => PyProof.Rows.mul_int q hc
theorem flat_if {c : Prop} [Decidable c] {d0 d : D} (h : (if c then Res.ok d0 else .stuck) = .ok d) (v : V) (r : ∀ M H, Rp Γ M H d0 v) : ∃ v, ∀ M H, Rp Γ M H d v := by
  split at h
  · cases h
    exact ⟨v, r⟩
  · cases h
theorem post_if {c : Prop} [Decidable c] {W : WX} {σ : St} {H : Hp} {d0 : D} {Q : D → Prop} (h : Post Γ W σ H (if c then Res.ok d0 else .stuck) Q) : c ∧ Q d0 := by
  split at h
  · rename_i hc
    exact ⟨hc, h⟩
  · exact h.elim
theorem od_mul : OpD Γ k X W (binaryOp .Mult) mulI := opd_int (fun _ => op_mulF) (fun i j H Q h => ⟨i, j, rfl, rfl, (post_if h).1, (post_if h).2 _ fun M => by rw [Rp]⟩) (fun i j z q => by split at q <;> cases q)
  (fun i j d q => flat_if q (.int (i * j)) fun M H => by rw [Rp])
theorem od_mod : OpD Γ k X W (binaryOp .Mod) modI := opd_int (fun _ => op_modN) (fun i j H Q h => ⟨i, j, rfl, rfl, (post_if h).1, (post_if h).2 _ fun M => by rw [Rp]⟩) (fun i j z q => by split at q <;> cases q)
  (fun i j d q => flat_if q (.int (i.fmod j)) fun M H => by rw [Rp])
theorem od_pow : OpD Γ k X W (binaryOp .Pow) powI := opd_int (fun _ => op_pow) (fun i j H Q h => ⟨i, j, rfl, rfl, (post_if h).1, (post_if h).2 _ fun M => by rw [Rp]⟩) (fun i j z q => by split at q <;> cases q)
  (fun i j d q => flat_if q (.int (i ^ j.toNat)) fun M H => by rw [Rp])
theorem op_fdivP (S : Sit Γ (k + 33) X W) : OpR X (binaryOp .FloorDiv) (rI (fun _ j => j ≠ 0) fun i j => .int (i.fdiv j)) := by
  intro pins s σ H x y v u Q I rx ry h
  obtain ⟨i, j, rfl, rfl, hc, q⟩ := h
  obtain ⟨t, rfl⟩ := rx
  obtain ⟨t', rfl⟩ := ry
  refine PyProof.Rows.floordiv_int hc ⟨.int _, H, I.tok _, ⟨_, rfl⟩, q⟩ (.inr (PySem.PylongRoom.of I.nolimit ?_ (S.seer (by omega) _ I.ok.frames (S.ns.keeps I.bk))))
  have d := (S.room (by omega)).dp
  show X.A.depth + 100 < recursionLimit
  omega
theorem od_fdiv : OpD Γ (k + 33) X W (binaryOp .FloorDiv) fdivI := opd_int (fun S => op_fdivP S) (fun i j H Q h => ⟨i, j, rfl, rfl, (post_if h).1, (post_if h).2 _ fun M => by rw [Rp]⟩) (fun i j z q => by split at q <;> cases q)
  (fun i j d q => flat_if q (.int (i.fdiv j)) fun M H => by rw [Rp])
theorem od_lt : OpD Γ k X W (compareOp .Lt) ltI := opd_int (fun _ => op_lt) (fun i j H Q h => ⟨i, j, rfl, rfl, h _ fun M => by rw [Rp]⟩) (fun i j z q => by cases q) (fun i j d q => by cases q; exact ⟨_, fun M H => by rw [Rp]⟩)
theorem od_le : OpD Γ k X W (compareOp .LtE) leI := opd_int (fun _ => op_le) (fun i j H Q h => ⟨i, j, rfl, rfl, h _ fun M => by rw [Rp]⟩) (fun i j z q => by cases q) (fun i j d q => by cases q; exact ⟨_, fun M H => by rw [Rp]⟩)
theorem od_gt : OpD Γ k X W (compareOp .Gt) gtI := opd_int (fun _ => op_gt) (fun i j H Q h => ⟨i, j, rfl, rfl, h _ fun M => by rw [Rp]⟩) (fun i j z q => by cases q) (fun i j d q => by cases q; exact ⟨_, fun M H => by rw [Rp]⟩)
theorem od_ge : OpD Γ k X W (compareOp .GtE) geI := opd_int (fun _ => op_ge) (fun i j H Q h => ⟨i, j, rfl, rfl, h _ fun M => by rw [Rp]⟩) (fun i j z q => by cases q) (fun i j d q => by cases q; exact ⟨_, fun M H => by rw [Rp]⟩)
end
set_option Elab.async false
set_option linter.all false
set_option maxRecDepth 100000
set_option maxHeartbeats 4000000
open PySem L2
/-! ### defs: what a def hands back is its pure function of the data -/
def spD (Γ : Gam) (n : Nat) (g : List D → Res D) : Sp := fun vs H Q E => ∃ (M : Addr → Prop) (ds : List D), ds.length = n ∧ (∀ a, M a → H a ≠ none) ∧ RpL Γ M H ds vs ∧
  match g ds with
  | .stuck => False
  | .ok d => WantE Γ M H Q d
  | .exc x => ∀ cv dd H', Same H H' → RpX Γ x cv dd H' → E cv dd H'
def spF (Γ : Gam) (n : Nat) (g : List D → Res (List D)) : Sp := fun vs H Q E => ∃ (M : Addr → Prop) (ds : List D), ds.length = n ∧ (∀ a, M a → H a ≠ none) ∧ RpL Γ M H ds vs ∧
  match g ds with
  | .stuck => False
  | .ok d => WantF Γ M H Q d
  | .exc x => ∀ cv dd H', Same H H' → RpX Γ x cv dd H' → E cv dd H'
/-- all but a is kept -/
def SameBut (a : Addr) (H H' : Hp) : Prop := ∀ b o, b ≠ a → H b = some o → H' b = some o
/-- __init__ of the class c: the fields -/
def spI (Γ : Gam) (c n : Nat) (g : List D → Res (List D)) : Sp := fun vs H Q E => ∃ (M : Addr → Prop) (x dx : Addr) (r : List V) (ds : List D), vs = .ref x :: r ∧ H x = some (.ins (Γ.cls c) dx []) ∧ ds.length = n ∧ (∀ a, M a → H a ≠ none) ∧ ¬ M x ∧ RpL Γ (fun a => M a ∨ a = x) H ds r ∧
  match g ds with
  | .stuck => False
  | .ok fs => ∀ us H', SameBut x H H' → H' x = some (.ins (Γ.cls c) dx us) → us.map (·.1) = (Γ.fld c).take us.length → RpL Γ (fun a => M a ∨ a = x) H' fs (us.map (·.2)) → Q .non H'
  | .exc e => ∀ cv dd H', SameBut x H H' → RpX Γ e cv dd H' → E cv dd H'
/-- the slots at the entry -/
def enter (N : Nat) (ds : List D) : Env := ds.map Cell.val ++ List.replicate (N - ds.length) Cell.no
def runD (N n : Nat) (b : Env → Out) : List D → Res D := fun ds => if ds.length = n then (match b (enter N ds) with
  | .next _ => .ok .non
  | .ret d => .ok d
  | .retF ds => .ok (.lst ds)
  | .exc x _ => .exc x
  | _ => .stuck) else .stuck
def runF (N n : Nat) (b : Env → Out) : List D → Res (List D) := fun ds => if ds.length = n then (match b (enter N ds) with
  | .retF ds => .ok ds
  | .exc x _ => .exc x
  | _ => .stuck) else .stuck
def runI (c N n : Nat) (b : Env → Out) : List D → Res (List D) := fun ds => if ds.length = n then (match b (.ins c [] :: enter (N - 1) ds) with
  | .next (.ins c' fs :: _) => if c' = c then .ok fs else .stuck
  | .exc x _ => .exc x
  | _ => .stuck) else .stuck
section
variable {Γ : Gam}
theorem enter_get {N : Nat} {ds : List D} {i : Nat} {c : Cell} (h : (enter N ds)[i]? = some c) : c = .no ∨ ∃ d, ds[i]? = some d ∧ c = .val d := by
  unfold enter at h
  rw [List.getElem?_append] at h
  split at h
  · rw [List.getElem?_map] at h
    cases q : ds[i]? with
    | none => rw [q] at h; cases h
    | some d =>
      rw [q] at h
      cases h
      exact .inr ⟨d, rfl, rfl⟩
  · rw [List.getElem?_replicate] at h
    split at h
    · cases h
      exact .inl rfl
    · cases h
theorem gd_enter {M : Addr → Prop} {H : Hp} {N : List Str} {ds : List D} {vs : List V} (hM : ∀ a, M a → H a ≠ none) (r : RpL Γ M H ds vs) (hl : ds.length ≤ N.length) : Gd Γ { M := M, x := 0, dx := 0 } H (L2.start N vs) H (enter N.length ds) := by
  have hv := r.length
  have noown : ∀ i p, ¬ OwnAt (L2.start N vs) (enter N.length ds) i p := fun i p ⟨c, h1, h2, _⟩ => by
    rcases enter_get h1 with e | ⟨d, _, e⟩
    · rw [e] at h2; cases h2
    · rw [e] at h2; cases h2
  have mx : ∀ a, Mx { M := M, x := 0, dx := 0 } (L2.start N vs) (enter N.length ds) a → M a := fun a h => h.elim id fun ⟨i, z⟩ => (noown i a z).elim
  refine ⟨?_, Same.refl H, hM, fun i c h => ?_, fun i p z => (noown i p z).elim, fun i j p z => (noown i p z).elim⟩
  · unfold L2.start enter
    rw [List.length_append, List.length_append, List.length_map, List.length_map, List.length_replicate, List.length_replicate, hv]
  · rcases enter_get h with e | ⟨d, h1, e⟩
    · rw [e]; trivial
    · rw [e]
      obtain ⟨v, h2, h3⟩ := r.get h1
      refine ⟨v, ?_, Rp.imp (.weak mx) d v h3⟩
      unfold L2.start
      rw [List.getElem?_append_left (by rw [List.length_map]; exact (List.getElem?_eq_some_iff.mp h2).1), List.getElem?_map, h2]
      rfl

abbrev Fx (Γ : Gam) (k : Nat) (f : Addr) (fd : FuncData) (ps : List Str) (sp : Sp) : Prop := FnOk Γ.P Γ.w Γ.K Γ.mg Γ.base (L2.CX Γ.P Γ.w) k f fd ps sp
abbrev Xb (Γ : Gam) (N : List Str) (qual : Str) (scope : Scope) (f : Addr) (cdv : Value) (A : Around) (outer : List PySem.Env) (s : Shared) (H : Hp) (E : XK) : Cx :=
  cxOf (L2.CX Γ.P Γ.w) Γ.P Γ.w Γ.K Γ.mg Γ.base N qual scope f cdv A outer s H E
abbrev Wb (E : XK) : WX := fun cls d _ H => E cls d H
structure Top (Γ : Gam) : Prop where
  tree : Γ.P.given.tree = none
  ns : Γ.base.NoSeer
theorem sit_body {k : Nat} {N ps : List Str} {qual : Str} {scope : Scope} {f : Addr} {cdv : Value} {A : Around} {outer : List PySem.Env} {s : Shared} {H : Hp} {E : XK} (T : Top Γ) (S : FnScope N ps scope)
    (hr : Room k (A.deeper (PyProof.Rows.envOfC qual scope s.heap.objs.size f cdv))) : Sit Γ k (Xb Γ N qual scope f cdv A outer s H E) (Wb E) :=
  ⟨rfl, rfl, rfl, rfl, rfl, fun _ => hr, fun _ => rfl, takes_of rfl rfl rfl rfl, passes_of rfl, S.nd, fun _ h hf hn => PySem.SeerAt.of hn T.tree hf S.gen S.co rfl rfl, T.ns⟩
def Body (Γ : Gam) (k : Nat) (N : List Str) (qual : Str) (scope : Scope) (f : Addr) (body : List Stmt) (b : Env → Out) : Prop :=
  ∀ (cdv : Value) (A : Around) (outer : List PySem.Env) (s : Shared) (H : Hp) (E : XK), DSs Γ k (Xb Γ N qual scope f cdv A outer s H E) (Wb E) body b
variable {k n : Nat} {N ps : List Str} {x qual : Str} {params : Arguments} {body : List Stmt} {scope : Scope} {dvs : List V} {kws : List (Str × V)} {f : Addr} {fd : FuncData} {b : Env → Out}
theorem fx_d (F : FunD Γ.K x qual params body scope dvs kws f fd) (S : FnScope N ps scope) (T : Top Γ) (hp : ps.length = n) (hn : n ≤ N.length) (hb : Body Γ k N qual scope f body b) : Fx Γ (k + 1) f fd ps (spD Γ n (runD N.length n b)) := by
  refine F.ok S (fun vs H Q E h => ?_) (fun cdv A outer s H vs Q E hr h => ?_)
  · obtain ⟨M, ds, hl, _, r, _⟩ := h
    rw [r.length, hl, hp]
  · obtain ⟨M, ds, hl, hM, r, w⟩ := h
    obtain ⟨ts, pt, run⟩ := hb cdv A outer s H E (sit_body T S hr)
    refine ⟨ts, pt, run { M := M, x := 0, dx := 0 } H _ H _ _ (gd_enter hM r (by omega)) ?_⟩
    unfold runD at w
    rw [if_pos hl] at w
    cases q : b (enter N.length ds) with
    | stuck => rw [q] at w; exact w.elim
    | next ρ' =>
      rw [q] at w
      exact fun σ' H' G' => w .non H' G'.ext (by rw [Rp])
    | ret d =>
      rw [q] at w
      exact fun v H' e r => w v H' e r
    | retF es =>
      rw [q] at w
      intro p us H' h0 e h1 r1
      refine w (.ref p) H' e ?_
      rw [Rp]
      exact ⟨p, us, rfl, .inl ⟨.inl h1, fun z => hM p z h0⟩, RpL.imp (.weak fun a z => .inl z) _ _ r1⟩
    | exc y ρ' =>
      rw [q] at w
      exact fun cv dd σ' H' G' r' => w cv dd H' G'.ext r'
    | brk ρ' => rw [q] at w; exact w.elim
    | cnt ρ' => rw [q] at w; exact w.elim
    | retP us d => rw [q] at w; exact w.elim
theorem fx_f (F : FunD Γ.K x qual params body scope dvs kws f fd) (S : FnScope N ps scope) (T : Top Γ) (hp : ps.length = n) (hn : n ≤ N.length) (hb : Body Γ k N qual scope f body b) : Fx Γ (k + 1) f fd ps (spF Γ n (runF N.length n b)) := by
  refine F.ok S (fun vs H Q E h => ?_) (fun cdv A outer s H vs Q E hr h => ?_)
  · obtain ⟨M, ds, hl, _, r, _⟩ := h
    rw [r.length, hl, hp]
  · obtain ⟨M, ds, hl, hM, r, w⟩ := h
    obtain ⟨ts, pt, run⟩ := hb cdv A outer s H E (sit_body T S hr)
    refine ⟨ts, pt, run { M := M, x := 0, dx := 0 } H _ H _ _ (gd_enter hM r (by omega)) ?_⟩
    unfold runF at w
    rw [if_pos hl] at w
    cases q : b (enter N.length ds) with
    | stuck => rw [q] at w; exact w.elim
    | next ρ' => rw [q] at w; exact w.elim
    | ret d => rw [q] at w; exact w.elim
    | retF es =>
      rw [q] at w
      exact fun p us H' h0 e h1 r1 => w p us H' h0 e h1 r1
    | exc y ρ' =>
      rw [q] at w
      exact fun cv dd σ' H' G' r' => w cv dd H' G'.ext r'
    | brk ρ' => rw [q] at w; exact w.elim
    | cnt ρ' => rw [q] at w; exact w.elim
    | retP us d => rw [q] at w; exact w.elim
/-- the heap without a -/
def hide (H : Hp) (a : Addr) : Hp := fun b => if b = a then none else H b
theorem hide_some {H : Hp} {a b : Addr} {o : HO} (h : hide H a b = some o) : b ≠ a ∧ H b = some o := by
  unfold hide at h
  split at h
  · cases h
  · rename_i z
    exact ⟨z, h⟩
theorem hide_ne {H : Hp} {a b : Addr} (h : b ≠ a) : hide H a b = H b := by unfold hide; rw [if_neg h]
theorem gd_enterI {M : Addr → Prop} {H : Hp} {N : List Str} {y : Str} {ds : List D} {vs : List V} {x dx : Addr} {c : Nat} (hx : H x = some (.ins (Γ.cls c) dx [])) (hM : ∀ a, M a → H a ≠ none) (nx : ¬ M x) (r : RpL Γ (fun a => M a ∨ a = x) H ds vs) (hl : ds.length ≤ N.length) :
    Gd Γ { M := M, x := x, dx := dx } (hide H x) (L2.start (y :: N) (.ref x :: vs)) H (.ins c [] :: enter N.length ds) := by
  have hv := r.length
  have e0 : L2.start (y :: N) (.ref x :: vs) = some (.ref x) :: L2.start N vs := by
    unfold L2.start
    simp
  rw [e0]
  have own : ∀ i p, OwnAt (some (V.ref x) :: L2.start N vs) (.ins c [] :: enter N.length ds) i p → i = 0 ∧ p = x := fun i p ⟨d, h1, h2, h3⟩ => by
    cases i with
    | zero =>
      simp at h3
      exact ⟨rfl, h3.symm⟩
    | succ i =>
      have h1' : (enter N.length ds)[i]? = some d := by simpa using h1
      rcases enter_get h1' with e | ⟨d, _, e⟩
      · rw [e] at h2; cases h2
      · rw [e] at h2; cases h2
  have mx : ∀ a, Mx { M := M, x := x, dx := dx } (some (V.ref x) :: L2.start N vs) (.ins c [] :: enter N.length ds) a → M a ∨ a = x := fun a h => h.elim .inl fun ⟨i, z⟩ => .inr (own i a z).2
  refine ⟨?_, fun a o h => (hide_some h).2, fun a h => ?_, fun i d h => ?_, fun i p z => ?_, fun i j p z z' => by rw [(own i p z).1, (own j p z').1]⟩
  · unfold L2.start enter
    simp [hv]
  · rw [hide_ne (fun q => nx (by rw [← q]; exact h))]
    exact hM a h
  · cases i with
    | zero =>
      simp at h
      subst h
      exact ⟨[], by simp, hx, by simp, .nil⟩
    | succ i =>
      have h1' : (enter N.length ds)[i]? = some d := by simpa using h
      rcases enter_get h1' with e | ⟨d', h1, e⟩
      · rw [e]; trivial
      · rw [e]
        obtain ⟨v, h2, h3⟩ := r.get h1
        refine ⟨v, ?_, Rp.imp (.weak mx) d' v h3⟩
        show (L2.start N vs)[i]? = _
        unfold L2.start
        rw [List.getElem?_append_left (by rw [List.length_map]; exact (List.getElem?_eq_some_iff.mp h2).1), List.getElem?_map, h2]
        rfl
  · rw [(own i p z).2]
    unfold hide
    rw [if_pos rfl]
theorem fx_i {c : Nat} {y : Str} (F : FunD Γ.K x qual params body scope dvs kws f fd) (S : FnScope (y :: N) ps scope) (T : Top Γ) (hp : ps.length = n + 1) (hn : n ≤ N.length) (hb : Body Γ k (y :: N) qual scope f body b) :
    Fx Γ (k + 1) f fd ps (spI Γ c n (runI c (N.length + 1) n b)) := by
  refine F.ok S (fun vs H Q E h => ?_) (fun cdv A outer s H vs Q E hr h => ?_)
  · obtain ⟨M, x, dx, rs, ds, rfl, _, hl, _, _, r, _⟩ := h
    rw [List.length_cons, r.length, hl, hp]
  · obtain ⟨M, x, dx, rs, ds, rfl, hx, hl, hM, nx, r, w⟩ := h
    obtain ⟨ts, pt, run⟩ := hb cdv A outer s H E (sit_body T S hr)
    have G0 := gd_enterI (N := N) (y := y) hx hM nx r (by omega)
    refine ⟨ts, pt, run { M := M, x := x, dx := dx } (hide H x) _ H _ _ G0 ?_⟩
    have back : ∀ {H'}, Same (hide H x) H' → SameBut x H H' := fun e b o h1 h2 => e b o (by rw [hide_ne h1]; exact h2)
    unfold runI at w
    rw [if_pos hl, Nat.add_sub_cancel] at w
    cases q : b (.ins c [] :: enter N.length ds) with
    | stuck => rw [q] at w; exact w.elim
    | next ρ' =>
      rw [q] at w
      intro σ' H' G'
      cases ρ' with
      | nil => exact w.elim
      | cons c0 ρ'' =>
        cases c0 with
        | no => exact w.elim
        | val d => exact w.elim
        | own ds => exact w.elim
        | held y => exact w.elim
        | par ds => exact w.elim
        | ins c' fs =>
          by_cases hc : c' = c
          · simp only [if_pos hc] at w
            obtain ⟨us, e1, h1, h2, h3⟩ := G'.cel 0 _ rfl
            rw [hc] at h1 h2
            refine w us H' (back G'.ext) h1 h2 (RpL.imp (.weak fun a z => ?_) _ _ h3)
            rcases z with z | z
            · exact .inl z
            · exact .inr ⟨0, _, rfl, rfl, by rw [z]; exact e1⟩
          · simp only [if_neg hc] at w
    | ret d => rw [q] at w; exact w.elim
    | retF es => rw [q] at w; exact w.elim
    | exc y ρ' =>
      rw [q] at w
      exact fun cv dd σ' H' G' r' => w cv dd H' (back G'.ext) r'
    | brk ρ' => rw [q] at w; exact w.elim
    | cnt ρ' => rw [q] at w; exact w.elim
    | retP us d => rw [q] at w; exact w.elim
end
set_option Elab.async false
set_option linter.all false
set_option maxRecDepth 100000
set_option maxHeartbeats 4000000
open PySem L2
/-! ### what may be called -/
structure Cal (Γ : Gam) (j : Nat) (f : Addr) (g : List D → Res D) : Prop where
  ex : ∃ (fd : FuncData) (ps : List Str) (dvs : List V) (ds : List Value) (dd : List D) (n : Nat) (g' : List D → Res D), Vals dvs ds ∧ Binds Γ.K fd ps ds ∧ Fx Γ j f fd ps (spD Γ n g') ∧ (∀ M H, RpL Γ M H dd dvs) ∧ (∀ as, as.length ≠ n → g' as = .stuck) ∧ ∀ as, g as = g' (as ++ dd)
structure CalF (Γ : Gam) (j : Nat) (f : Addr) (g : List D → Res (List D)) : Prop where
  ex : ∃ (fd : FuncData) (ps : List Str) (dvs : List V) (ds : List Value) (dd : List D) (n : Nat) (g' : List D → Res (List D)), Vals dvs ds ∧ Binds Γ.K fd ps ds ∧ Fx Γ j f fd ps (spF Γ n g') ∧ (∀ M H, RpL Γ M H dd dvs) ∧ (∀ as, as.length ≠ n → g' as = .stuck) ∧ ∀ as, g as = g' (as ++ dd)
structure CalI (Γ : Gam) (j : Nat) (c : Nat) (g : List D → Res (List D)) : Prop where
  ex : ∃ (f : Addr) (fd : FuncData) (ps : List Str) (dvs : List V) (ds : List Value) (dd : List D) (n : Nat) (g' : List D → Res (List D)), Mk Γ.K (Γ.cls c) f ∧ Vals dvs ds ∧ Binds Γ.K fd ps ds ∧ Fx Γ j f fd ps (spI Γ c n g') ∧ (∀ M H, RpL Γ M H dd dvs) ∧ (∀ as, as.length ≠ n → g' as = .stuck) ∧ ∀ as, g as = g' (as ++ dd)
/-- the module's name x stands for such a function -/
structure Glo (Γ : Gam) (x : Str) (f : Addr) : Prop where
  mg : Γ.mg x = some (.ref f)
  kp : PySem.W.keepIn Γ.K (.ref f) = true
structure ClsOk (Γ : Gam) (c : Nat) (x : Str) : Prop where
  mg : Γ.mg x = some (.ref (Γ.cls c))
  cl : Cls Γ.K (Γ.cls c)
  sf : PySem.W.selfFirst Γ.K (Γ.cls c) = true
  hc : PySem.W.findIn Γ.K (.ref (Γ.cls c)) "__class__" = some (some (.builtin "object.__class__"))
  hn : PySem.W.specialIn Γ.K (.builtin "object.__class__") "__get__" = some (some (.builtin "getset_descriptor.__get__"))
  tk : PySem.W.takesIn Γ.K (.builtin "object.__class__") = some true
  mo : PySem.W.mroIn Γ.K (Γ.cls c) (.type "object") = some true
section
variable {Γ : Gam} {k j : Nat} {X : Cx} {W : WX}
theorem Post.stuck_not {α : Type} {σ : St} {H : Hp} {r : Res α} {Q : α → Prop} (h : Post Γ W σ H r Q) : r ≠ .stuck := fun q => by rw [q] at h; exact h
theorem Sit.room' (S : Sit Γ k X W) (hk : 0 < k) (hj : j ≤ k) : Room j X.A := (S.room hk).mono hj
theorem spD_of {M : Addr → Prop} {σ : St} {H : Hp} {Q : VK} {as : List D} {vs : List V} {n : Nat} {g : List D → Res D} (hl : ∀ as, as.length ≠ n → g as = .stuck) (hM : ∀ a, M a → H a ≠ none) (r : RpL Γ M H as vs) (h : Post Γ W σ H (g as) (WantE Γ M H Q)) : spD Γ n g vs H Q (WE W σ) := by
  refine ⟨M, as, Decidable.byContradiction fun z => h.stuck_not (hl as z), hM, r, ?_⟩
  cases q : g as with
  | stuck => rw [q] at h; exact h
  | ok d => rw [q] at h; exact h
  | exc x => rw [q] at h; exact h
theorem spF_of {M : Addr → Prop} {σ : St} {H : Hp} {Q : VK} {as : List D} {vs : List V} {n : Nat} {g : List D → Res (List D)} (hl : ∀ as, as.length ≠ n → g as = .stuck) (hM : ∀ a, M a → H a ≠ none) (r : RpL Γ M H as vs) (h : Post Γ W σ H (g as) (WantF Γ M H Q)) : spF Γ n g vs H Q (WE W σ) := by
  refine ⟨M, as, Decidable.byContradiction fun z => h.stuck_not (hl as z), hM, r, ?_⟩
  cases q : g as with
  | stuck => rw [q] at h; exact h
  | ok d => rw [q] at h; exact h
  | exc x => rw [q] at h; exact h
theorem Cal.run {f : Addr} {g : List D → Res D} (C : Cal Γ j f g) (S : Sit Γ k X W) (hk : 0 < k) (hj : j ≤ k) {pins : List (Addr × Obj)} {σ : St} {H : Hp} {s : Shared} {Q : VK} {us : List Value} {vs : List V} {M : Addr → Prop} {as : List D}
    (I : Inv X pins σ H s) (rv : Vals vs us) (hM : ∀ a, M a → H a ≠ none) (r : RpL Γ M H as vs) (h : Post Γ W σ H (g as) (WantE Γ M H Q)) : wpAny (model X.prog X.w) X.A (call (.ref f) us) (EP X pins σ Q) X.xe s := by
  obtain ⟨fd, ps, dvs, ds, dd, n, g', h1, h2, h3, h4, h5, h6⟩ := C.ex
  rw [h6] at h
  have F : FnOk X.prog X.w X.K X.mg X.base (L2.CX X.prog X.w) j f fd ps (spD Γ n g') := by rw [S.P, S.w, S.K, S.mg, S.base]; exact h3
  exact run_fnSD (E := WE W) F (S.room' hk hj) (by rw [S.K]; exact h2) h1 (passAt S.takes σ) I rv (spD_of h5 hM (r.append (h4 M H)) h)
theorem CalF.run {f : Addr} {g : List D → Res (List D)} (C : CalF Γ j f g) (S : Sit Γ k X W) (hk : 0 < k) (hj : j ≤ k) {pins : List (Addr × Obj)} {σ : St} {H : Hp} {s : Shared} {Q : VK} {us : List Value} {vs : List V} {M : Addr → Prop} {as : List D}
    (I : Inv X pins σ H s) (rv : Vals vs us) (hM : ∀ a, M a → H a ≠ none) (r : RpL Γ M H as vs) (h : Post Γ W σ H (g as) (WantF Γ M H Q)) : wpAny (model X.prog X.w) X.A (call (.ref f) us) (EP X pins σ Q) X.xe s := by
  obtain ⟨fd, ps, dvs, ds, dd, n, g', h1, h2, h3, h4, h5, h6⟩ := C.ex
  rw [h6] at h
  have F : FnOk X.prog X.w X.K X.mg X.base (L2.CX X.prog X.w) j f fd ps (spF Γ n g') := by rw [S.P, S.w, S.K, S.mg, S.base]; exact h3
  exact run_fnSD (E := WE W) F (S.room' hk hj) (by rw [S.K]; exact h2) h1 (passAt S.takes σ) I rv (spF_of h5 hM (r.append (h4 M H)) h)
/-- a new instance -/
theorem CalI.run {c : Nat} {g : List D → Res (List D)} (C : CalI Γ j c g) (S : Sit Γ k X W) (hj : j + 1 ≤ k) {pins : List (Addr × Obj)} {σ : St} {H : Hp} {s : Shared} {Q : VK} {us : List Value} {vs : List V} {M : Addr → Prop} {as : List D}
    (I : Inv X pins σ H s) (rv : Vals vs us) (hM : ∀ a, M a → H a ≠ none) (r : RpL Γ M H as vs) (h : Post Γ W σ H (g as) (fun fs => WantE Γ M H Q (.obj c fs))) : wpAny (model X.prog X.w) X.A (call (.ref (Γ.cls c)) us) (EP X pins σ Q) X.xe s := by
  obtain ⟨f, fd, ps, dvs, ds, dd, n, g', mk, h1, h2, h3, h4, h5, h6⟩ := C.ex
  rw [h6] at h
  have F : FnOk X.prog X.w X.K X.mg X.base (L2.CX X.prog X.w) j f fd ps (spI Γ c n g') := by rw [S.P, S.w, S.K, S.mg, S.base]; exact h3
  have mkX : Mk X.K (Γ.cls c) f := by rw [S.K]; exact mk
  have rm : Room (j + 1) X.A := (S.room (by omega)).mono hj
  generalize ea : s.heap.objs.size = a at *
  have n1 : H (a + 1) = none := I.hok.fresh (by rw [ea]; exact Nat.le_succ a)
  have n0 : H a = none := I.hok.fresh (Nat.le_of_eq ea)
  have ne : a ≠ a + 1 := Nat.ne_of_lt (Nat.lt_succ_self a)
  have I2 := Inv.made (C := Γ.cls c) I
  rw [ea] at I2
  generalize eH : upd (upd H a (.own (a + 1))) (a + 1) (.ins (Γ.cls c) a []) = H1 at I2
  have same1 : Same H H1 := fun b o e => by
    rw [← eH, upd_ne (ne_of_none e n1), upd_ne (ne_of_none e n0)]
    exact e
  have same2 : ∀ {H2}, SameBut (a + 1) H1 H2 → Same H H2 := fun z b o e => z b o (ne_of_none e n1) (same1 b o e)
  have nM : ¬ M (a + 1) := fun z => hM _ z n1
  have hsp : spI Γ c n g' (.ref (a + 1) :: (vs ++ dvs)) H1 (fun v H2 => v = .non ∧ Q (.ref (a + 1)) H2) (WE W σ) := by
    refine ⟨M, a + 1, a, vs ++ dvs, as ++ dd, rfl, by rw [← eH]; exact upd_same, Decidable.byContradiction fun z => h.stuck_not (h5 _ z), fun b z q => ?_, nM, RpL.imp (Imp.trans (Imp.fresh n1) (.mono same1)) _ _ (r.append (h4 M H)), ?_⟩
    · cases e : H b with
      | none => exact hM b z e
      | some o => rw [same1 b o e] at q; cases q
    · cases q : g' (as ++ dd) with
      | stuck => rw [q] at h; exact h
      | ok fs =>
        rw [q] at h
        intro us' H2 hs hx hn hr
        refine ⟨rfl, h _ H2 (same2 hs) ?_⟩
        rw [Rp]
        exact ⟨a + 1, a, us', rfl, hx, nM, hn, RpL.imp (.weak fun _ z => .inl z) _ _ hr⟩
      | exc e =>
        rw [q] at h
        exact fun cv dd' H2 hs hx => h cv dd' H2 (same2 hs) hx
  have rv2 : Vals (V.ref (a + 1) :: (vs ++ dvs)) (Value.ref (a + 1) :: (us ++ ds)) := .cons rfl (rv.append h1)
  have hl : (Value.ref (a + 1) :: us ++ ds).length = ps.length := by
    have e := rv2.length
    rw [F.len _ _ _ _ hsp] at e
    exact e.symm
  have h2X : Binds X.K fd ps ds := by rw [S.K]; exact h2
  refine wpAny_call (L2.make_map (f := f) I.kIn mkX.makes mkX.init (beq_iff_eq.mp mkX.fn) ?_)
  rw [ea]
  refine codeAny_mono (F.run _ X.stack _ _ ⟨Value.ref (a + 1) :: us, []⟩ (Value.ref (a + 1) :: (us ++ ds)) _ _ (WE W σ) (rm.make (Γ.cls c) us []) (I2.env0.make (Γ.cls c) us []) (h2X _ (Value.ref (a + 1) :: us) I2.kIn hl) rv2 hsp) fun r s' hq' => ?_
  cases r with
  | error e => exact passAt S.takes σ pins _ _ e s' I2 hq'
  | ok fl =>
    cases fl with
    | ret u =>
      obtain ⟨v, H', I3, rv3, wp_walk, q3⟩ := I2.after hq'
      subst wp_walk
      exact ⟨rv3, V.ref (a + 1), H', I3, rfl, q3⟩
    | next => exact False.elim hq'
    | brk => exact False.elim hq'
    | cont => exact False.elim hq'
end
set_option Elab.async false
set_option linter.all false
set_option maxRecDepth 100000
set_option maxHeartbeats 4000000
open PySem L2
section
variable {Γ : Gam} {k j : Nat} {X : Cx} {W : WX}
/-! ### argument lists -/
theorem da_nil : DA Γ k X W [] E.nil := fun S => ⟨_, pa_nil, fun M0 H0 σ H ρ Q G h => h [] H (Same.refl H) .nil⟩
theorem WantA.back {M : Addr → Prop} {H H' : Hp} {Q : List V → Hp → Prop} {ds : List D} (e : Same H H') (h : WantA Γ M H Q ds) : WantA Γ M H' Q ds := fun v H1 e1 r => h v H1 (e.trans e1) r
theorem da_cons {e : Expr} {es : List Expr} {f : Env → Res D} {g : Env → Res (List D)} (he : DE Γ k X W e f) (ht : DA Γ k X W es g) (hs : starEach (e :: es) X.env = (false, eval e X.env) :: starEach es X.env := by rfl) : DA Γ k X W (e :: es) (E.cons f g) := fun S => by
  obtain ⟨te, pe, re⟩ := he S
  obtain ⟨ta, pa, ra⟩ := ht S
  refine ⟨_, pa_cons pe pa hs, fun M0 H0 σ H ρ Q G h => ?_⟩
  refine re M0 H0 σ H ρ _ G ((Post.bind h).imp (Same.refl H) fun d q1 v H1 e1 r1 => ?_)
  have G1 := G.mono e1
  refine ra M0 H0 σ H1 ρ _ G1 ((Post.bind q1).imp e1 fun ds q2 vs H2 e2 r2 => ?_)
  exact q2 _ H2 (e1.trans e2) (.cons (r1.mono e2) r2)
/-! ### calls by a name of the module -/
def tCal (Γ : Gam) (W : WX) (M : St → Addr → Prop) (r : List V → St → Hp → VK → Prop) (ta : TA) : TE := fun σ H Q => ta σ H fun vs H1 => r vs σ H1 Q
theorem pe_calV {x : Str} {p pos : Pos} {e : Expr} {es : List Expr} {f : Addr} {ta : TA} {r : List V → St → Hp → VK → Prop} (hg : Gl X x) (hm : X.mg x = some (.ref f)) (hk : PySem.W.keepIn X.K (.ref f) = true) (pa : PA X (e :: es) ta)
    (run : ∀ (pins : List (Addr × Obj)) (s : Shared) (σ : St) (H : Hp) (Q : VK) (us : List Value) (vs : List V), Inv X pins σ H s → Vals vs us → r vs σ H Q → wpAny (model X.prog X.w) X.A (call (.ref f) us) (EP X pins σ Q) X.xe s)
    (hdb : (x == ("__debug__" : Str)) = false := by decide) (hst : starEach (e :: es) X.env = (false, eval e X.env) :: starEach es X.env := by rfl) (hpl : (backTo pos (starEach es X.env)).any (·.1) = false := by rfl) :
    PE X (.Call (.Name x p) (e :: es) [] pos) (fun σ H Q => ta σ H fun vs H1 => r vs σ H1 Q) := by
  refine ⟨fun pins s σ H Q I h => wpAny_Call_Name_kw (ld_glob I hg hm ?_ hdb)⟩
  exact PySem.W.callWith_K (h₀ := X.base) I.ok.mod.kin hk (thn (pa.run pos pins s σ H _ I h) fun us s1 ⟨vs, H1, I1, rv, q⟩ => ⟨I1.kIn, run pins s1 σ H1 Q us vs I1 rv q⟩) hst hpl
theorem pe_calV0 {x : Str} {p pos : Pos} {f : Addr} {r : List V → St → Hp → VK → Prop} (hg : Gl X x) (hm : X.mg x = some (.ref f)) (hk : PySem.W.keepIn X.K (.ref f) = true)
    (run : ∀ (pins : List (Addr × Obj)) (s : Shared) (σ : St) (H : Hp) (Q : VK) (us : List Value) (vs : List V), Inv X pins σ H s → Vals vs us → r vs σ H Q → wpAny (model X.prog X.w) X.A (call (.ref f) us) (EP X pins σ Q) X.xe s)
    (hdb : (x == ("__debug__" : Str)) = false := by decide) : PE X (.Call (.Name x p) [] [] pos) (fun σ H Q => r [] σ H Q) :=
  ⟨fun pins s σ H Q I h => wpAny_Call_Name_kw (ld_glob I hg hm (PySem.W.callWith_K0 I.kIn hk (run pins s σ H Q [] [] I .nil h)) hdb)⟩
/-- what the rules of calls hand on -/
def RCal (Γ : Gam) (W : WX) {α : Type} (g : List D → Res α) (want : (Addr → Prop) → Hp → VK → α → Prop) : List V → St → Hp → VK → Prop := fun vs σ H Q => ∃ (M : Addr → Prop) (as : List D), (∀ a, M a → H a ≠ none) ∧ RpL Γ M H as vs ∧ Post Γ W σ H (g as) (want M H Q)
theorem de_app {α : Type} {e : List Expr} {fa : Env → Res (List D)} {g : List D → Res α} {want : (Addr → Prop) → Hp → VK → α → Prop} {ta : TA} (back : ∀ M H H' Q a, Same H H' → want M H Q a → want M H' Q a)
    (ra : ∀ M0 H0 σ H ρ Q, Gd Γ M0 H0 σ H ρ → Post Γ W σ H (fa ρ) (WantA Γ (Mx M0 σ ρ) H Q) → ta σ H Q)
    {M0 : Bd} {H0 : Hp} {σ : St} {H : Hp} {ρ : Env} {Q : VK} (G : Gd Γ M0 H0 σ H ρ) (h : Post Γ W σ H ((fa ρ).bind g) (want (Mx M0 σ ρ) H Q)) : ta σ H fun vs H1 => RCal Γ W g want vs σ H1 Q := by
  refine ra M0 H0 σ H ρ _ G ((Post.bind h).imp (Same.refl H) fun ds q vs H1 e1 r1 => ?_)
  exact ⟨Mx M0 σ ρ, ds, fun a z => Mx.alive (G.mono e1) z, r1, q.imp e1 fun a z => back _ _ _ _ _ e1 z⟩
theorem WantF.back {M : Addr → Prop} {H H' : Hp} {Q : VK} {d : List D} (e : Same H H') (h : WantF Γ M H Q d) : WantF Γ M H' Q d := fun p vs H1 h0 e1 h1 r => h p vs H1 (by
  cases q : H p with
  | none => rfl
  | some o => rw [e p o q] at h0; cases h0) (e.trans e1) h1 r
theorem de_call {x : Str} {p pos : Pos} {e : Expr} {es : List Expr} {f : Addr} {fa : Env → Res (List D)} {g : List D → Res D} (N : Glo Γ x f) (C : Cal Γ j f g) (ha : DA Γ k X W (e :: es) fa) (hg : Gl X x := by rfl) (hk : 0 < k := by first | decide | omega) (hj : j ≤ k := by first | decide | omega)
    (hdb : (x == ("__debug__" : Str)) = false := by decide) (hst : starEach (e :: es) X.env = (false, eval e X.env) :: starEach es X.env := by rfl) (hpl : (backTo pos (starEach es X.env)).any (·.1) = false := by rfl) :
    DE Γ k X W (.Call (.Name x p) (e :: es) [] pos) (E.app g fa) := fun S => by
  obtain ⟨ta, pa, ra⟩ := ha S
  refine ⟨_, pe_calV (r := RCal Γ W g (WantE Γ)) hg (by rw [S.mg]; exact N.mg) (by rw [S.K]; exact N.kp) pa (fun pins s σ H Q us vs I rv ⟨M, as, hM, r, h⟩ => C.run S hk hj I rv hM r h) hdb hst hpl, fun M0 H0 σ H ρ Q G h => ?_⟩
  exact de_app (e := es) (g := g) (want := WantE Γ) (fun _ _ _ _ _ e z => WantE.back e z) ra G h
theorem df_call {x : Str} {p pos : Pos} {e : Expr} {es : List Expr} {f : Addr} {fa : Env → Res (List D)} {g : List D → Res (List D)} (N : Glo Γ x f) (C : CalF Γ j f g) (ha : DA Γ k X W (e :: es) fa) (hg : Gl X x := by rfl) (hk : 0 < k := by first | decide | omega) (hj : j ≤ k := by first | decide | omega)
    (hdb : (x == ("__debug__" : Str)) = false := by decide) (hst : starEach (e :: es) X.env = (false, eval e X.env) :: starEach es X.env := by rfl) (hpl : (backTo pos (starEach es X.env)).any (·.1) = false := by rfl) :
    DF Γ k X W (.Call (.Name x p) (e :: es) [] pos) (E.appF g fa) := fun S => by
  obtain ⟨ta, pa, ra⟩ := ha S
  refine ⟨_, pe_calV (r := RCal Γ W g (WantF Γ)) hg (by rw [S.mg]; exact N.mg) (by rw [S.K]; exact N.kp) pa (fun pins s σ H Q us vs I rv ⟨M, as, hM, r, h⟩ => C.run S hk hj I rv hM r h) hdb hst hpl, fun M0 H0 σ H ρ Q G h => ?_⟩
  exact de_app (e := es) (g := g) (want := WantF Γ) (fun _ _ _ _ _ e z => WantF.back e z) ra G h
theorem de_call0 {x : Str} {p pos : Pos} {f : Addr} {g : List D → Res D} (N : Glo Γ x f) (C : Cal Γ j f g) (hg : Gl X x := by rfl) (hk : 0 < k := by first | decide | omega) (hj : j ≤ k := by first | decide | omega) (hdb : (x == ("__debug__" : Str)) = false := by decide) :
    DE Γ k X W (.Call (.Name x p) [] [] pos) (E.app g E.nil) := fun S =>
  ⟨_, pe_calV0 (r := RCal Γ W g (WantE Γ)) hg (by rw [S.mg]; exact N.mg) (by rw [S.K]; exact N.kp) (fun pins s σ H Q us vs I rv ⟨M, as, hM, r, h⟩ => C.run S hk hj I rv hM r h) hdb, fun M0 H0 σ H ρ Q G h => ⟨Mx M0 σ ρ, [], fun a z => Mx.alive G z, .nil, h⟩⟩
theorem df_call0 {x : Str} {p pos : Pos} {f : Addr} {g : List D → Res (List D)} (N : Glo Γ x f) (C : CalF Γ j f g) (hg : Gl X x := by rfl) (hk : 0 < k := by first | decide | omega) (hj : j ≤ k := by first | decide | omega) (hdb : (x == ("__debug__" : Str)) = false := by decide) :
    DF Γ k X W (.Call (.Name x p) [] [] pos) (E.appF g E.nil) := fun S =>
  ⟨_, pe_calV0 (r := RCal Γ W g (WantF Γ)) hg (by rw [S.mg]; exact N.mg) (by rw [S.K]; exact N.kp) (fun pins s σ H Q us vs I rv ⟨M, as, hM, r, h⟩ => C.run S hk hj I rv hM r h) hdb, fun M0 H0 σ H ρ Q G h => ⟨Mx M0 σ ρ, [], fun a z => Mx.alive G z, .nil, h⟩⟩
/-- C(e, ..) -/
def objR (c : Nat) (g : List D → Res (List D)) : List D → Res D := fun as => (g as).bind fun fs => .ok (.obj c fs)
theorem objR_post {c : Nat} {g : List D → Res (List D)} {as : List D} {σ : St} {H : Hp} {Q : D → Prop} (h : Post Γ W σ H (objR c g as) Q) : Post Γ W σ H (g as) fun fs => Q (.obj c fs) := Post.bind h
theorem de_make {x : Str} {p pos : Pos} {e : Expr} {es : List Expr} {c : Nat} {fa : Env → Res (List D)} {g : List D → Res (List D)} (N : ClsOk Γ c x) (C : CalI Γ j c g) (ha : DA Γ k X W (e :: es) fa) (hg : Gl X x := by rfl) (hj : j + 1 ≤ k := by first | decide | omega)
    (hdb : (x == ("__debug__" : Str)) = false := by decide) (hst : starEach (e :: es) X.env = (false, eval e X.env) :: starEach es X.env := by rfl) (hpl : (backTo pos (starEach es X.env)).any (·.1) = false := by rfl) :
    DE Γ k X W (.Call (.Name x p) (e :: es) [] pos) (E.app (objR c g) fa) := fun S => by
  obtain ⟨ta, pa, ra⟩ := ha S
  obtain ⟨_, _, _, _, _, _, _, _, mk, _⟩ := C.ex
  refine ⟨_, pe_calV (r := RCal Γ W (objR c g) (WantE Γ)) hg (by rw [S.mg]; exact N.mg) (by rw [S.K]; exact mk.kp) pa (fun pins s σ H Q us vs I rv ⟨M, as, hM, r, h⟩ => C.run S hj I rv hM r (objR_post h)) hdb hst hpl, fun M0 H0 σ H ρ Q G h => ?_⟩
  exact de_app (e := es) (g := objR c g) (want := WantE Γ) (fun _ _ _ _ _ e z => WantE.back e z) ra G h
/-! ### methods -/
structure CalM (Γ : Gam) (j : Nat) (c : Nat) (m : Str) (g : List D → Res D) : Prop where
  ex : ∃ f, Meth Γ.K (Γ.cls c) m f ∧ Cal Γ j f g
  no : m ∉ Γ.fld c
theorem lookup_no {us : List (Str × V)} {m : Str} {l : List Str} {n : Nat} (e : us.map (·.1) = l.take n) (h : m ∉ l) : us.lookup m = none := by
  cases q : us.lookup m with
  | none => rfl
  | some v =>
    have h1 : m ∈ us.map (·.1) := by
      clear e
      induction us with
      | nil => cases q
      | cons a r ih =>
        obtain ⟨a1, a2⟩ := a
        rw [List.lookup_cons] at q
        split at q
        · rename_i z
          rw [beq_iff_eq.mp z]
          exact List.mem_cons_self
        · exact List.mem_cons_of_mem _ (ih q)
    rw [e] at h1
    exact (h (List.mem_of_mem_take h1)).elim
/-- the receiver is an instance of c -/
def isObj (c : Nat) (g : List D → Res D) : D → List D → Res D := fun x as => match x with
  | .obj c' _ => if c' = c then g (x :: as) else .stuck
  | _ => .stuck
def E.meth (c : Nat) (g : List D → Res D) (fo : Env → Res D) (fa : Env → Res (List D)) : Env → Res D := fun ρ => (fo ρ).bind fun x => match x with
  | .obj c' _ => if c' = c then (fa ρ).bind fun as => g (x :: as) else .stuck
  | _ => .stuck
theorem meth_obj {c : Nat} {g : List D → Res D} {x : D} {r : Res (List D)} {σ : St} {H : Hp} {Q : D → Prop}
    (h : Post Γ W σ H (match x with | .obj c' _ => if c' = c then r.bind fun as => g (x :: as) else .stuck | _ => .stuck) Q) : ∃ fs, x = .obj c fs ∧ Post Γ W σ H (r.bind fun as => g (x :: as)) Q := by
  cases x with
  | obj c' fs =>
    dsimp only at h
    split at h
    · rename_i e
      exact ⟨fs, by rw [e], h⟩
    · exact h.elim
  | _ => exact h.elim
theorem de_meth {pl : Sem Bool} {o e : Expr} {es : List Expr} {m x : Str} {apos pos : Pos} {c : Nat} {fo : Env → Res D} {fa : Env → Res (List D)} {g : List D → Res D} (K : ClsOk Γ c x) (C : CalM Γ j c m g) (ho : DE Γ k X W o fo) (ha : DA Γ k X W (e :: es) fa)
    (hk : 0 < k := by first | decide | omega) (hj : j ≤ k := by first | decide | omega) (hst : starEach (e :: es) X.env = (false, eval e X.env) :: starEach es X.env := by rfl) (hpl : (backTo pos (starEach es X.env)).any (·.1) = false := by rfl)
    (ht : eval (.Call (.Attribute o m apos) (e :: es) [] pos) X.env = (do
      let r ← eval o X.env
      standAt apos.atName
      let (h, l) ← holding [r] (getMethod r m pl)
      callWith pos h l (backTo pos (starEach (e :: es) X.env)) (backToKw pos (keywordEach [] X.env))) := by rfl) : DE Γ k X W (.Call (.Attribute o m apos) (e :: es) [] pos) (E.meth c g fo fa) := fun S => by
  obtain ⟨to, po, ro⟩ := ho S
  obtain ⟨ta, pa, ra⟩ := ha S
  obtain ⟨f, mt, cal⟩ := C.ex
  have clX : Cls X.K (Γ.cls c) := by rw [S.K]; exact K.cl
  have mtX : Meth X.K (Γ.cls c) m f := by rw [S.K]; exact mt
  refine ⟨fun σ H Q => to σ H fun x H1 => ∃ a dx us, x = V.ref a ∧ H1 a = some (.ins (Γ.cls c) dx us) ∧ us.lookup m = none ∧ ta σ H1 fun vs H2 => RCal Γ W g (WantE Γ) (.ref a :: vs) σ H2 Q, ⟨fun pins s σ H Q I h => ?_⟩, fun M0 H0 σ H ρ Q G h => ?_⟩
  · refine PySem.W.methodCall_KW (pl := pl) (thn (po.run pins s σ H _ I h) fun u s1 ⟨x, H1, I1, rx, a, dx, us, ex, ea, l, q⟩ => ?_) ht
    subst ex
    cases rx
    refine getmeth_ok I1 ea clX mtX l (PySem.W.callWith_K (first := [Value.ref a]) (h₀ := X.base) I.ok.mod.kin mtX.kp (thn (pa.run pos pins s1 σ H1 _ I1 q) fun ws s2 ⟨vs, H2, I2, rv, M, as, hM, r, z⟩ => ⟨I2.kIn, ?_⟩) hst hpl)
    exact cal.run (us := Value.ref a :: ws) (vs := V.ref a :: vs) S hk hj I2 (.cons rfl rv) hM r z
  · refine ro M0 H0 σ H ρ _ G ((Post.bind h).imp (Same.refl H) fun d q v H1 e1 r1 => ?_)
    obtain ⟨fs, rfl, q1⟩ := meth_obj q
    have r1' := r1
    rw [Rp] at r1'
    obtain ⟨a, dx, us, rfl, h1, h2, h3, h4⟩ := r1'
    refine ⟨a, dx, us, rfl, h1, lookup_no h3 C.no, ?_⟩
    have G1 := G.mono e1
    refine ra M0 H0 σ H1 ρ _ G1 ((Post.bind q1).imp e1 fun ds q2 vs H2 e2 r2 => ?_)
    exact ⟨Mx M0 σ ρ, .obj c fs :: ds, fun a z => Mx.alive (G1.mono e2) z, .cons (r1.mono e2) r2, q2.imp (e1.trans e2) fun a z => WantE.back (e1.trans e2) z⟩
theorem de_meth0 {pl : Sem Bool} {o : Expr} {m x : Str} {apos pos : Pos} {c : Nat} {fo : Env → Res D} {g : List D → Res D} (K : ClsOk Γ c x) (C : CalM Γ j c m g) (ho : DE Γ k X W o fo)
    (hk : 0 < k := by first | decide | omega) (hj : j ≤ k := by first | decide | omega)
    (ht : eval (.Call (.Attribute o m apos) [] [] pos) X.env = (do
      let r ← eval o X.env
      standAt apos.atName
      let (h, l) ← holding [r] (getMethod r m pl)
      callWith pos h l (backTo pos (starEach [] X.env)) (backToKw pos (keywordEach [] X.env))) := by rfl) : DE Γ k X W (.Call (.Attribute o m apos) [] [] pos) (E.meth c g fo E.nil) := fun S => by
  obtain ⟨to, po, ro⟩ := ho S
  obtain ⟨f, mt, cal⟩ := C.ex
  have clX : Cls X.K (Γ.cls c) := by rw [S.K]; exact K.cl
  have mtX : Meth X.K (Γ.cls c) m f := by rw [S.K]; exact mt
  refine ⟨fun σ H Q => to σ H fun x H1 => ∃ a dx us, x = V.ref a ∧ H1 a = some (.ins (Γ.cls c) dx us) ∧ us.lookup m = none ∧ RCal Γ W g (WantE Γ) [.ref a] σ H1 Q, ⟨fun pins s σ H Q I h => ?_⟩, fun M0 H0 σ H ρ Q G h => ?_⟩
  · refine PySem.W.methodCall_KW (pl := pl) (thn (po.run pins s σ H _ I h) fun u s1 ⟨x, H1, I1, rx, a, dx, us, ex, ea, l, M, as, hM, r, z⟩ => ?_) ht
    subst ex
    cases rx
    exact getmeth_ok I1 ea clX mtX l (PySem.W.callWith_K0 (first := [Value.ref a]) I1.kIn mtX.kp (cal.run (us := [Value.ref a]) (vs := [V.ref a]) S hk hj I1 (.cons rfl .nil) hM r z))
  · refine ro M0 H0 σ H ρ _ G ((Post.bind h).imp (Same.refl H) fun d q v H1 e1 r1 => ?_)
    obtain ⟨fs, rfl, q1⟩ := meth_obj q
    have r1' := r1
    rw [Rp] at r1'
    obtain ⟨a, dx, us, rfl, h1, h2, h3, h4⟩ := r1'
    refine ⟨a, dx, us, rfl, h1, lookup_no h3 C.no, Mx M0 σ ρ, [.obj c fs], fun a z => Mx.alive (G.mono e1) z, .cons r1 .nil, ?_⟩
    exact (show Post Γ W σ H (g [.obj c fs]) _ from q1).imp e1 fun a z => WantE.back e1 z
/-! ### the own operators of a class -/
def E.own2 (c : Nat) (g : List D → Res D) (f h : Env → Res D) : Env → Res D := fun ρ => (f ρ).bind fun x => (h ρ).bind fun y => match x, y with
  | .obj c1 _, .obj c2 _ => if c1 = c ∧ c2 = c then g [x, y] else .stuck
  | _, _ => .stuck
theorem own2_obj {c : Nat} {g : List D → Res D} {x y : D} {σ : St} {H : Hp} {Q : D → Prop}
    (h : Post Γ W σ H (match x, y with | .obj c1 _, .obj c2 _ => if c1 = c ∧ c2 = c then g [x, y] else .stuck | _, _ => .stuck) Q) : ∃ fs gs, x = .obj c fs ∧ y = .obj c gs ∧ Post Γ W σ H (g [x, y]) Q := by
  cases x <;> cases y <;> first | exact h.elim | skip
  dsimp only at h
  split at h
  · rename_i e
    exact ⟨_, _, by rw [e.1], by rw [e.2], h⟩
  · exact h.elim
theorem obj_at {M : Addr → Prop} {H : Hp} {c : Nat} {fs : List D} {v : V} (h : Rp Γ M H (.obj c fs) v) : ∃ a dx us, v = .ref a ∧ H a = some (.ins (Γ.cls c) dx us) ∧ us.map (·.1) = (Γ.fld c).take us.length ∧ RpL Γ M H fs (us.map (·.2)) := by
  rw [Rp] at h
  obtain ⟨a, dx, us, h1, h2, _, h4, h5⟩ := h
  exact ⟨a, dx, us, h1, h2, h4, h5⟩
/-- the class's function does not hand back NotImplemented -/
theorem cmpBack {pins : List (Addr × Obj)} {σ : St} {Q : VK} {v : Value} {s : Shared} (h : EP X pins σ Q v s) : PySem.W.CmpBack (EP X pins σ Q) v s := by
  obtain ⟨x, H, I, r, q⟩ := id h
  cases v <;> first | exact h | (cases x <;> first | (obtain ⟨t, e⟩ := r; cases e) | cases r)
theorem ins_at {pins : List (Addr × Obj)} {σ : St} {H : Hp} {s : Shared} {a C dx : Addr} {us : List (Str × V)} (I : Inv X pins σ H s) (h : H a = some (.ins C dx us)) : ∃ ox od, PySem.W.InstAt s.heap a ox C od := by
  obtain ⟨mA, O, _⟩ := ins_get I.hok h
  obtain ⟨od, J, _⟩ := O.look
  exact ⟨_, _, J⟩
theorem de_own2 {op : Operator} {m x : Str} {a b : Expr} {pos : Pos} {c : Nat} {f h : Env → Res D} {g : List D → Res D} (K : ClsOk Γ c x) (C : CalM Γ j c m g) (hm : PySem.dunder op.info.2 = m) (ha : DE Γ k X W a f) (hb : DE Γ k X W b h) (hk : 0 < k := by first | decide | omega) (hj : j ≤ k := by first | decide | omega) :
    DE Γ k X W (.BinOp a op b pos) (E.own2 c g f h) := fun S => by
  obtain ⟨ta, pa, ra⟩ := ha S
  obtain ⟨tb, pb, rb⟩ := hb S
  obtain ⟨fn, mt, cal⟩ := C.ex
  refine ⟨fun σ H Q => ta σ H fun x H1 => tb σ H1 fun y H2 => ∃ a dx us b dy ws, x = V.ref a ∧ y = V.ref b ∧ H2 a = some (.ins (Γ.cls c) dx us) ∧ H2 b = some (.ins (Γ.cls c) dy ws) ∧ RCal Γ W g (WantE Γ) [.ref a, .ref b] σ H2 Q, ⟨fun pins s σ H Q I z => ?_⟩, fun M0 H0 σ H ρ Q G q => ?_⟩
  · refine wpAny_BinOp (binT pa pb I (R := fun x y H2 => ∃ a dx us b dy ws, x = V.ref a ∧ y = V.ref b ∧ H2 a = some (.ins (Γ.cls c) dx us) ∧ H2 b = some (.ins (Γ.cls c) dy ws) ∧ RCal Γ W g (WantE Γ) [.ref a, .ref b] σ H2 Q) z fun v u s2 x y H2 I2 rx ry q => ?_)
    obtain ⟨p, dx, us, p2, dy, ws, rfl, rfl, h1, h2, M, as, hM, r, w⟩ := q
    cases rx
    cases ry
    obtain ⟨m2, F2⟩ := I2.fr
    obtain ⟨_, _, J⟩ := ins_at I2 h1
    obtain ⟨_, _, J2⟩ := ins_at I2 h2
    refine PySem.W.binop_K F2 I2.ok.mod.kin J J2.type (by rw [S.K]; exact K.sf) (by rw [S.K, hm]; exact mt.at_) (by rw [S.K]; exact mt.fn) ?_
    exact thn (cal.run (us := [Value.ref p, Value.ref p2]) (vs := [V.ref p, V.ref p2]) S hk hj I2 (.cons rfl (.cons rfl .nil)) hM r w) fun _ _ z => cmpBack z
  · refine ra M0 H0 σ H ρ _ G ((Post.bind q).imp (Same.refl H) fun d q1 v H1 e1 r1 => ?_)
    have G1 := G.mono e1
    refine rb M0 H0 σ H1 ρ _ G1 ((Post.bind q1).imp e1 fun d2 q2 v2 H2 e2 r2 => ?_)
    obtain ⟨fs, gs, rfl, rfl, q3⟩ := own2_obj q2
    obtain ⟨p, dx, us, rfl, h1, _⟩ := obj_at (r1.mono e2)
    obtain ⟨p2, dy, ws, rfl, h2, _⟩ := obj_at r2
    exact ⟨p, dx, us, p2, dy, ws, rfl, rfl, h1, h2, Mx M0 σ ρ, _, fun a z => Mx.alive (G1.mono e2) z, .cons (r1.mono e2) (.cons r2 .nil), q3.imp (e1.trans e2) fun a z => WantE.back (e1.trans e2) z⟩
theorem de_ownNeg {x : Str} {a : Expr} {pos : Pos} {c : Nat} {f : Env → Res D} {g : List D → Res D} (K : ClsOk Γ c x) (C : CalM Γ j c "__neg__" g) (ha : DE Γ k X W a f) (hk : 0 < k := by first | decide | omega) (hj : j ≤ k := by first | decide | omega) :
    DE Γ k X W (.UnaryOp .USub a pos) (E.meth c g f E.nil) := fun S => by
  obtain ⟨ta, pa, ra⟩ := ha S
  obtain ⟨fn, mt, cal⟩ := C.ex
  refine ⟨fun σ H Q => ta σ H fun x H1 => ∃ a dx us, x = V.ref a ∧ H1 a = some (.ins (Γ.cls c) dx us) ∧ RCal Γ W g (WantE Γ) [.ref a] σ H1 Q, ⟨fun pins s σ H Q I z => ?_⟩, fun M0 H0 σ H ρ Q G q => ?_⟩
  · refine PyProof.Rows.UnaryOp_ (thn (pa.run pins s σ H _ I z) fun v s1 ⟨y, H1, I1, ry, q⟩ => ?_)
    obtain ⟨p, dx, us, rfl, h1, M, as, hM, r, w⟩ := q
    cases ry
    obtain ⟨m2, F2⟩ := I1.fr
    obtain ⟨_, _, J⟩ := ins_at I1 h1
    refine PySem.W.ksp_neg F2 I1.ok.mod.kin J (by rw [S.K]; exact mt.at_) (by rw [S.K]; exact mt.fn) ?_
    exact cal.run (us := [Value.ref p]) (vs := [V.ref p]) S hk hj I1 (.cons rfl .nil) hM r w
  · refine ra M0 H0 σ H ρ _ G ((Post.bind q).imp (Same.refl H) fun d q1 v H1 e1 r1 => ?_)
    obtain ⟨fs, rfl, q2⟩ := meth_obj q1
    obtain ⟨p, dx, us, rfl, h1, _⟩ := obj_at r1
    exact ⟨p, dx, us, rfl, h1, Mx M0 σ ρ, _, fun a z => Mx.alive (G.mono e1) z, .cons r1 .nil, (show Post Γ W σ H (g [.obj c fs]) _ from q2).imp e1 fun a z => WantE.back e1 z⟩
/-! ### fields -/
def E.fld (c i : Nat) (f : Env → Res D) : Env → Res D := fun ρ => (f ρ).bind fun x => match x with
  | .obj c' fs => if c' = c then (match fs[i]? with | some d => .ok d | none => .stuck) else .stuck
  | _ => .stuck
theorem lookup_at : ∀ {us : List (Str × V)} {l : List Str} {i : Nat} {m : Str} {v : V}, us.map (·.1) = l.take us.length → l.Nodup → l[i]? = some m → (us.map (·.2))[i]? = some v → us.lookup m = some v
  | [], _, i, _, _, _, _, _, h => by simp at h
  | (n, u) :: us, l, i, m, v, e, nd, hl, h => by
    cases l with
    | nil => simp at hl
    | cons y ys =>
      simp only [List.map_cons, List.length_cons, List.take_succ_cons, List.cons.injEq] at e
      obtain ⟨rfl, e⟩ := e
      cases i with
      | zero =>
        simp at hl h
        subst hl
        subst h
        simp
      | succ i =>
        have hl' : ys[i]? = some m := by simpa using hl
        have h' : (us.map (·.2))[i]? = some v := by simpa using h
        have nd' := List.nodup_cons.mp nd
        rw [List.lookup_cons]
        have ne : (m == n) = false := beq_eq_false_iff_ne.mpr fun q => nd'.1 (by rw [← q]; exact List.mem_of_getElem? hl')
        rw [ne]
        exact lookup_at e nd'.2 hl' h'
structure FldOk (Γ : Gam) (c i : Nat) (m : Str) : Prop where
  at_ : (Γ.fld c)[i]? = some m
  nd : (Γ.fld c).Nodup
  no : NoAttr Γ.K (Γ.cls c) m
theorem de_fld {m x : Str} {a : Expr} {pos : Pos} {c i : Nat} {f : Env → Res D} (K : ClsOk Γ c x) (L : FldOk Γ c i m) (ha : DE Γ k X W a f) (hb : attributeBase a m X.env (eval a X.env) = eval a X.env := by rfl) : DE Γ k X W (.Attribute a m pos) (E.fld c i f) := fun S => by
  obtain ⟨ta, pa, ra⟩ := ha S
  refine ⟨_, pe_fld pa hb, fun M0 H0 σ H ρ Q G q => ?_⟩
  refine ra M0 H0 σ H ρ _ G ((Post.bind q).imp (Same.refl H) fun d q1 v H1 e1 r1 => ?_)
  cases d with
  | obj c' fs =>
    dsimp only at q1
    split at q1
    · rename_i e
      subst e
      obtain ⟨p, dx, us, rfl, h1, h2, h3⟩ := obj_at r1
      cases z : fs[i]? with
      | none => rw [z] at q1; exact q1.elim
      | some d =>
        rw [z] at q1
        obtain ⟨u, h4, h5⟩ := h3.get z
        refine ⟨p, Γ.cls c', dx, us, u, rfl, h1, by rw [S.K]; exact K.cl, by rw [S.K]; exact L.no, lookup_at h2 L.nd L.at_ h4, q1 u H1 e1 h5⟩
    · exact q1.elim
  | _ => exact q1.elim
end
set_option Elab.async false
set_option linter.all false
set_option maxRecDepth 100000
set_option maxHeartbeats 4000000
open PySem L2
/-! ### plain data compared -/
mutual
def toP : D → Option PyData
  | .non => some .none
  | .bl b => some (.bool b)
  | .int i => some (.int i)
  | .str x => some (.str x)
  | .tup ds => (toPs ds).map .tuple
  | .lst ds => (toPs ds).map .list
  | .obj _ _ => none
def toPs : List D → Option (List PyData)
  | [] => some []
  | d :: ds => match toP d, toPs ds with
    | some p, some ps => some (p :: ps)
    | _, _ => none
end
section
variable {Γ : Gam} {M : Addr → Prop} {H : Hp}
mutual
theorem toP_dp : ∀ (d : D) (v : V) (p : PyData), toP d = some p → Rp Γ M H d v → Dp Γ.K H v p
  | .non, v, p, e, r => by
    rw [toP] at e
    rw [Rp] at r
    cases e
    rw [r]
    exact .non
  | .bl b, v, p, e, r => by
    rw [toP] at e
    rw [Rp] at r
    cases e
    rw [r]
    exact .bl b
  | .int i, v, p, e, r => by
    rw [toP] at e
    rw [Rp] at r
    cases e
    rw [r]
    exact .int i
  | .str x, v, p, e, r => by
    rw [toP] at e
    rw [Rp] at r
    cases e
    rw [r]
    exact .str x
  | .tup ds, v, p, e, r => by
    rw [toP] at e
    rw [Rp] at r
    obtain ⟨a, vs, rfl, t, h⟩ := r
    cases q : toPs ds with
    | none => rw [q] at e; cases e
    | some ps =>
      rw [q] at e
      cases e
      exact .tup t.sq (toPs_dp ds vs ps q h)
  | .lst ds, v, p, e, r => by
    rw [toP] at e
    rw [Rp] at r
    obtain ⟨a, vs, rfl, t, h⟩ := r
    cases q : toPs ds with
    | none => rw [q] at e; cases e
    | some ps =>
      rw [q] at e
      cases e
      exact .lst t.sq (toPs_dp ds vs ps q h)
  | .obj c fs, v, p, e, r => by
    rw [toP] at e
    cases e
theorem toPs_dp : ∀ (ds : List D) (vs : List V) (ps : List PyData), toPs ds = some ps → RpL Γ M H ds vs → DpAll Γ.K H vs ps
  | [], vs, ps, e, r => by
    rw [toPs] at e
    rw [RpL] at r
    cases e
    rw [r]
    exact .nil
  | d :: ds, vs, ps, e, r => by
    rw [toPs] at e
    rw [RpL] at r
    obtain ⟨v, t, rfl, h1, h2⟩ := r
    cases q : toP d with
    | none => rw [q] at e; cases e
    | some p =>
      cases q2 : toPs ds with
      | none => rw [q, q2] at e; cases e
      | some ps' =>
        rw [q, q2] at e
        cases e
        exact .cons (toP_dp d v p q h1) (toPs_dp ds t ps' q2 h2)
end
end
def eqWith (neg : Bool) (x y : D) : Res D := match toP x, toP y with
  | some p, some q => if SeqAt.shaped p = true ∧ SeqAt.shaped q = true then .ok (.bl (if neg then !PyData.eqv p q else PyData.eqv p q)) else .stuck
  | _, _ => .stuck
def eqD : D → D → Res D := eqWith false
def neD : D → D → Res D := eqWith true
theorem eqWith_n (neg : Bool) (x y z) : eqWith neg x y ≠ .exc z := by
  unfold eqWith
  split
  · split <;> exact fun q => nomatch q
  · exact fun q => nomatch q
theorem eqD_n (x y z) : eqD x y ≠ .exc z := eqWith_n false x y z
theorem neD_n (x y z) : neD x y ≠ .exc z := eqWith_n true x y z
/-- scalars compared -/
def eqS : D → D → Res D
  | .int i, .int j => .ok (.bl (decide (i = j)))
  | .str x, .str y => .ok (.bl (decide (x = y)))
  | .bl x, .bl y => .ok (.bl (x == y))
  | _, _ => .stuck
def neS : D → D → Res D
  | .int i, .int j => .ok (.bl (!decide (i = j)))
  | .str x, .str y => .ok (.bl (!decide (x = y)))
  | .bl x, .bl y => .ok (.bl (!(x == y)))
  | _, _ => .stuck
theorem eqS_n (x y z) : eqS x y ≠ .exc z := by cases x <;> cases y <;> exact fun q => nomatch q
theorem neS_n (x y z) : neS x y ≠ .exc z := by cases x <;> cases y <;> exact fun q => nomatch q
def isN : D → Res D
  | .non => .ok (.bl true)
  | _ => .ok (.bl false)
def notN : D → Res D
  | .non => .ok (.bl false)
  | _ => .ok (.bl true)
section
variable {Γ : Gam} {k j : Nat} {X : Cx} {W : WX}
theorem od_eqD : OpD Γ (k + 1) X W (compareOp .Eq) eqD := fun S => by
  refine ⟨_, op_eqD (S.room (Nat.succ_pos k)).units, fun M H x y a b Q m r1 r2 h => ?_⟩
  unfold eqD eqWith at h
  cases q1 : toP a with
  | none => rw [q1] at h; exact h.elim
  | some p =>
    cases q2 : toP b with
    | none => rw [q1, q2] at h; exact h.elim
    | some q =>
      rw [q1, q2] at h
      dsimp only at h
      split at h
      · rename_i c
        refine ⟨p, q, ?_, ?_, c.1, c.2, h _ H (Same.refl H) (by rw [Rp] <;> rfl)⟩
        · rw [S.K]; exact toP_dp a x p q1 r1
        · rw [S.K]; exact toP_dp b y q q2 r2
      · exact h.elim
theorem od_neD : OpD Γ (k + 1) X W (compareOp .NotEq) neD := fun S => by
  refine ⟨_, op_neD (S.room (Nat.succ_pos k)).units, fun M H x y a b Q m r1 r2 h => ?_⟩
  unfold neD eqWith at h
  cases q1 : toP a with
  | none => rw [q1] at h; exact h.elim
  | some p =>
    cases q2 : toP b with
    | none => rw [q1, q2] at h; exact h.elim
    | some q =>
      rw [q1, q2] at h
      dsimp only at h
      split at h
      · rename_i c
        refine ⟨p, q, ?_, ?_, c.1, c.2, h _ H (Same.refl H) (by rw [Rp] <;> rfl)⟩
        · rw [S.K]; exact toP_dp a x p q1 r1
        · rw [S.K]; exact toP_dp b y q q2 r2
      · exact h.elim
theorem od_eqS : OpD Γ k X W (compareOp .Eq) eqS := fun S => by
  refine ⟨_, op_eq, fun M H x y a b Q m r1 r2 h => ?_⟩
  cases a <;> cases b <;> first | exact h.elim | skip
  all_goals (
    rw [Rp] at r1 r2
    subst r1
    subst r2
    refine ⟨rfl, ?_⟩
    refine h _ H (Same.refl H) ?_
    rw [Rp]
    simp [Bool.beq_eq_decide_eq])
theorem od_neS : OpD Γ k X W (compareOp .NotEq) neS := fun S => by
  refine ⟨_, op_ne, fun M H x y a b Q m r1 r2 h => ?_⟩
  cases a <;> cases b <;> first | exact h.elim | skip
  all_goals (
    rw [Rp] at r1 r2
    subst r1
    subst r2
    refine ⟨rfl, ?_⟩
    refine h _ H (Same.refl H) ?_
    rw [Rp]
    simp [Bool.beq_eq_decide_eq])
def D.isNon : D → Bool
  | .non => true
  | _ => false
theorem non_iff {M : Addr → Prop} {H : Hp} {d : D} {v : V} (r : Rp Γ M H d v) : decide (v = .non) = d.isNon := by
  cases d with
  | non => rw [Rp] at r; rw [r]; rfl
  | bl b => rw [Rp] at r; rw [r]; rfl
  | int i => rw [Rp] at r; rw [r]; rfl
  | str x => rw [Rp] at r; rw [r]; rfl
  | tup ds => rw [Rp] at r; obtain ⟨a, vs, e, _⟩ := r; rw [e]; rfl
  | lst ds => rw [Rp] at r; obtain ⟨a, vs, e, _⟩ := r; rw [e]; rfl
  | obj c fs => rw [Rp] at r; obtain ⟨a, dx, us, e, _⟩ := r; rw [e]; rfl
theorem de_isN {a : Expr} {f : Env → Res D} {i : Nat} {p pos : Pos} (ha : DE Γ k X W a f) : DE Γ k X W (.Compare a [.Is] [.Constant .none i p] pos) (E.op1 isN f) := fun S => by
  obtain ⟨ta, pa, ra⟩ := ha S
  refine ⟨_, pe_cmp (pc_isN pa) rfl, fun M0 H0 σ H ρ Q G h => ?_⟩
  refine ra M0 H0 σ H ρ _ G ((Post.bind h).imp (Same.refl H) fun d q v H1 e1 r1 => ?_)
  show Q (V.bl (decide (v = V.non))) H1
  rw [non_iff r1]
  cases d <;> exact q _ H1 e1 (by rw [Rp] <;> rfl)
theorem de_notN {a : Expr} {f : Env → Res D} {i : Nat} {p pos : Pos} (ha : DE Γ k X W a f) : DE Γ k X W (.Compare a [.IsNot] [.Constant .none i p] pos) (E.op1 notN f) := fun S => by
  obtain ⟨ta, pa, ra⟩ := ha S
  refine ⟨_, pe_cmp (pc_notN pa) rfl, fun M0 H0 σ H ρ Q G h => ?_⟩
  refine ra M0 H0 σ H ρ _ G ((Post.bind h).imp (Same.refl H) fun d q v H1 e1 r1 => ?_)
  show Q (V.bl (!decide (v = V.non))) H1
  rw [non_iff r1]
  cases d <;> exact q _ H1 e1 (by rw [Rp] <;> rfl)
/-! ### truth of tests -/
theorem WantB.back {H H' : Hp} {Q : Bool → Hp → Prop} {b : Bool} (e : Same H H') (h : WantB H Q b) : WantB H' Q b := fun H1 e1 => h H1 (e.trans e1)
def DW (Γ : Gam) (k : Nat) (X : Cx) (W : WX) (e : Expr) (f : Env → Res Bool) : Prop := Sit Γ k X W → ∃ tt : TT, PW X e tt ∧
  ∀ M0 H0 σ H ρ Q, Gd Γ M0 H0 σ H ρ → Post Γ W σ H (f ρ) (WantB H Q) → tt σ H Q
theorem dt_not {a : Expr} {f : Env → Res Bool} {pos : Pos} (ha : DT Γ k X W a f) : DT Γ k X W (.UnaryOp .Not a pos) (T.not f) := fun S => by
  obtain ⟨ta, pa, ra⟩ := ha S
  refine ⟨_, pt_not pa, fun M0 H0 σ H ρ Q G h => ?_⟩
  exact ra M0 H0 σ H ρ _ G ((Post.bind h).imp (Same.refl H) fun b q H1 e1 => q H1 e1)
theorem dw_and1 {a : Expr} {f : Env → Res Bool} {pos : Pos} (ha : DT Γ k X W a f) : DW Γ k X W (.BoolOp .And [a] pos) f := fun S => by
  obtain ⟨ta, pa, ra⟩ := ha S
  exact ⟨_, pw_and1 pa, ra⟩
theorem dw_or1 {a : Expr} {f : Env → Res Bool} {pos : Pos} (ha : DT Γ k X W a f) : DW Γ k X W (.BoolOp .Or [a] pos) f := fun S => by
  obtain ⟨ta, pa, ra⟩ := ha S
  exact ⟨_, pw_or1 pa, ra⟩
theorem dw_and {a b : Expr} {r : List Expr} {f g : Env → Res Bool} {pos : Pos} (ha : DT Γ k X W a f) (hb : DW Γ k X W (.BoolOp .And (b :: r) pos) g) : DW Γ k X W (.BoolOp .And (a :: b :: r) pos) (T.and f g) := fun S => by
  obtain ⟨ta, pa, ra⟩ := ha S
  obtain ⟨tb, pb, rb⟩ := hb S
  refine ⟨_, pw_and pa pb, fun M0 H0 σ H ρ Q G h => ?_⟩
  refine ra M0 H0 σ H ρ _ G ((Post.bind h).imp (Same.refl H) fun b q H1 e1 => ?_)
  cases b with
  | true => exact rb M0 H0 σ H1 ρ Q (G.mono e1) ((show Post Γ W σ H (g ρ) _ from q).imp e1 fun b z => z.back e1)
  | false => exact (show WantB H Q false from q) H1 e1
theorem dw_or {a b : Expr} {r : List Expr} {f g : Env → Res Bool} {pos : Pos} (ha : DT Γ k X W a f) (hb : DW Γ k X W (.BoolOp .Or (b :: r) pos) g) : DW Γ k X W (.BoolOp .Or (a :: b :: r) pos) (T.or f g) := fun S => by
  obtain ⟨ta, pa, ra⟩ := ha S
  obtain ⟨tb, pb, rb⟩ := hb S
  refine ⟨_, pw_or pa pb, fun M0 H0 σ H ρ Q G h => ?_⟩
  refine ra M0 H0 σ H ρ _ G ((Post.bind h).imp (Same.refl H) fun b q H1 e1 => ?_)
  cases b with
  | true => exact (show WantB H Q true from q) H1 e1
  | false => exact rb M0 H0 σ H1 ρ Q (G.mono e1) ((show Post Γ W σ H (g ρ) _ from q).imp e1 fun b z => z.back e1)
theorem dt_bool {e : Expr} {f : Env → Res Bool} (h : DW Γ k X W e f) : DT Γ k X W e f := fun S => by
  obtain ⟨ta, pa, ra⟩ := h S
  exact ⟨_, pa.pt, ra⟩
/-! ### and, or, not, conditional as values -/
def E.tv (f : Env → Res Bool) : Env → Res D := fun ρ => (f ρ).bind fun b => .ok (.bl b)
def E.and (f g : Env → Res D) : Env → Res D := fun ρ => (f ρ).bind fun x => match x with
  | .bl true => g ρ
  | .bl false => .ok (.bl false)
  | _ => .stuck
def E.or (f g : Env → Res D) : Env → Res D := fun ρ => (f ρ).bind fun x => match x with
  | .bl true => .ok (.bl true)
  | .bl false => g ρ
  | _ => .stuck
def E.not (f : Env → Res D) : Env → Res D := fun ρ => (f ρ).bind fun x => match x with
  | .bl b => .ok (.bl (!b))
  | _ => .stuck
def E.ite (c : Env → Res Bool) (f g : Env → Res D) : Env → Res D := fun ρ => (c ρ).bind fun b => if b = true then f ρ else g ρ
theorem de_one {op : BoolOp} {a : Expr} {f : Env → Res D} {pos : Pos} (ha : DE Γ k X W a f) : DE Γ k X W (.BoolOp op [a] pos) f := fun S => by
  obtain ⟨ta, pa, ra⟩ := ha S
  exact ⟨_, pe_one pa, ra⟩
theorem de_and {a b : Expr} {r : List Expr} {f g : Env → Res D} {pos : Pos} (ha : DE Γ k X W a f) (hb : DE Γ k X W (.BoolOp .And (b :: r) pos) g) : DE Γ k X W (.BoolOp .And (a :: b :: r) pos) (E.and f g) := fun S => by
  obtain ⟨ta, pa, ra⟩ := ha S
  obtain ⟨tb, pb, rb⟩ := hb S
  refine ⟨_, pe_and pa pb, fun M0 H0 σ H ρ Q G h => ?_⟩
  refine ra M0 H0 σ H ρ _ G ((Post.bind h).imp (Same.refl H) fun d q v H1 e1 r1 => ?_)
  cases d with
  | bl b =>
    rw [Rp] at r1
    cases b with
    | true => exact ⟨true, r1, rb M0 H0 σ H1 ρ Q (G.mono e1) ((show Post Γ W σ H (g ρ) _ from q).imp e1 fun b z => z.back e1)⟩
    | false => exact ⟨false, r1, (show WantE Γ _ H Q (.bl false) from q) _ H1 e1 (by rw [Rp])⟩
  | _ => exact (show False from q).elim
theorem de_or {a b : Expr} {r : List Expr} {f g : Env → Res D} {pos : Pos} (ha : DE Γ k X W a f) (hb : DE Γ k X W (.BoolOp .Or (b :: r) pos) g) : DE Γ k X W (.BoolOp .Or (a :: b :: r) pos) (E.or f g) := fun S => by
  obtain ⟨ta, pa, ra⟩ := ha S
  obtain ⟨tb, pb, rb⟩ := hb S
  refine ⟨_, pe_or pa pb, fun M0 H0 σ H ρ Q G h => ?_⟩
  refine ra M0 H0 σ H ρ _ G ((Post.bind h).imp (Same.refl H) fun d q v H1 e1 r1 => ?_)
  cases d with
  | bl b =>
    rw [Rp] at r1
    cases b with
    | true => exact ⟨true, r1, (show WantE Γ _ H Q (.bl true) from q) _ H1 e1 (by rw [Rp])⟩
    | false => exact ⟨false, r1, rb M0 H0 σ H1 ρ Q (G.mono e1) ((show Post Γ W σ H (g ρ) _ from q).imp e1 fun b z => z.back e1)⟩
  | _ => exact (show False from q).elim
theorem de_not {a : Expr} {f : Env → Res D} {pos : Pos} (ha : DE Γ k X W a f) : DE Γ k X W (.UnaryOp .Not a pos) (E.not f) := fun S => by
  obtain ⟨ta, pa, ra⟩ := ha S
  refine ⟨_, pe_not pa, fun M0 H0 σ H ρ Q G h => ?_⟩
  refine ra M0 H0 σ H ρ _ G ((Post.bind h).imp (Same.refl H) fun d q v H1 e1 r1 => ?_)
  cases d with
  | bl b =>
    rw [Rp] at r1
    exact ⟨b, r1, (show WantE Γ _ H Q (.bl (!b)) from q) _ H1 e1 (by rw [Rp])⟩
  | _ => exact (show False from q).elim
theorem de_ite {c a b : Expr} {t : Env → Res Bool} {f g : Env → Res D} {pos : Pos} (hc : DT Γ k X W c t) (ha : DE Γ k X W a f) (hb : DE Γ k X W b g) : DE Γ k X W (.IfExp c a b pos) (E.ite t f g) := fun S => by
  obtain ⟨tc, pc, rc⟩ := hc S
  obtain ⟨ta, pa, ra⟩ := ha S
  obtain ⟨tb, pb, rb⟩ := hb S
  refine ⟨_, pe_ifExp pc pa pb, fun M0 H0 σ H ρ Q G h => ?_⟩
  refine rc M0 H0 σ H ρ _ G ((Post.bind h).imp (Same.refl H) fun b q H1 e1 => ?_)
  cases b with
  | true => exact ra M0 H0 σ H1 ρ Q (G.mono e1) ((show Post Γ W σ H (f ρ) _ from q).imp e1 fun b z => z.back e1)
  | false => exact rb M0 H0 σ H1 ρ Q (G.mono e1) ((show Post Γ W σ H (g ρ) _ from q).imp e1 fun b z => z.back e1)
/-! ### statements -/
theorem lift_post {α : Type} {M0 : Bd} {H0 : Hp} {Dn : Ends} {r : Res α} {ρ : Env} {σ : St} {H : Hp} {K : α → Out} (G : Gd Γ M0 H0 σ H ρ) (h : PostS Γ M0 H0 W Dn (S.lift r ρ K)) : Post Γ W σ H r fun a => PostS Γ M0 H0 W Dn (K a) := by
  cases r with
  | stuck => exact h
  | ok a => exact h
  | exc x => exact fun cv dd H' e rx => h cv dd σ H' (G.mono e) rx
theorem ds_set (i : Nat) {x : Str} {e : Expr} {f : Env → Res D} {pos pos' : Pos} (nd : X.N.Nodup) (hN : X.N[i]? = some x := by rfl) (hx : Loc X.env.scope x := by first | exact Or.inl rfl | exact Or.inr rfl) (he : DE Γ k X W e f)
    (hs : swapsWith e (some (.Name x pos')) pos.line X.env = pure false := by rfl) (hf : X.fn x = true ∨ X.env.scope.names.lookup x = some .local := by first | exact .inl rfl | exact .inr rfl) : DS Γ k X W (.Assign [.Name x pos'] e pos) (S.set i f) := fun St => by
  obtain ⟨te, pe, re⟩ := he St
  refine ⟨_, ps_set (i := i) nd hN hx pe hs hf, fun M0 H0 σ H ρ Dn G h => ?_⟩
  refine re M0 H0 σ H ρ _ G ((lift_post G h).imp (Same.refl H) fun d q v H1 e1 r1 => ?_)
  split at q
  · rename_i hi
    exact q _ _ (G.set_val hi e1 r1)
  · exact q.elim
theorem ds_setF (i : Nat) {x : Str} {e : Expr} {f : Env → Res (List D)} {pos pos' : Pos} (nd : X.N.Nodup) (hN : X.N[i]? = some x := by rfl) (hx : Loc X.env.scope x := by first | exact Or.inl rfl | exact Or.inr rfl) (he : DF Γ k X W e f)
    (hs : swapsWith e (some (.Name x pos')) pos.line X.env = pure false := by rfl) (hf : X.fn x = true ∨ X.env.scope.names.lookup x = some .local := by first | exact .inl rfl | exact .inr rfl) : DS Γ k X W (.Assign [.Name x pos'] e pos) (S.setF i f) := fun St => by
  obtain ⟨te, pe, re⟩ := he St
  refine ⟨_, ps_set (i := i) nd hN hx pe hs hf, fun M0 H0 σ H ρ Dn G h => ?_⟩
  refine re M0 H0 σ H ρ _ G ((lift_post G h).imp (Same.refl H) fun ds q p vs H1 h0 e1 h1 r1 => ?_)
  split at q
  · rename_i hi
    exact q _ _ (G.set_own hi e1 h0 h1 r1)
  · exact q.elim
theorem ds_expr {e : Expr} {f : Env → Res D} {pos : Pos} (he : DE Γ k X W e f) (hs : swapsWith e none pos.line X.env = pure false := by rfl) : DS Γ k X W (.Expr e pos) (S.expr f) := fun St => by
  obtain ⟨te, pe, re⟩ := he St
  refine ⟨_, ps_expr pe hs, fun M0 H0 σ H ρ Dn G h => ?_⟩
  exact re M0 H0 σ H ρ _ G ((lift_post G h).imp (Same.refl H) fun d q v H1 e1 r1 => q _ _ (G.mono e1))
theorem own_sub {M0 : Bd} {σ : St} {H1 : Hp} {ρ : Env} {d : D} {v : V} (r : Rp Γ (Mx M0 σ ρ) H1 d v) : Rp Γ M0.M H1 d v := Rp.imp (.weak fun a z => .inl z) d v r
theorem ds_ret {e : Expr} {f : Env → Res D} {pos : Pos} (he : DE Γ k X W e f) : DS Γ k X W (.Return (some e) pos) (S.ret f) := fun St => by
  obtain ⟨te, pe, re⟩ := he St
  refine ⟨_, ps_ret pe, fun M0 H0 σ H ρ Dn G h => ?_⟩
  exact re M0 H0 σ H ρ _ G ((lift_post G h).imp (Same.refl H) fun d q v H1 e1 r1 => q _ _ (G.ext.trans e1) (own_sub r1))
theorem ds_retF {e : Expr} {f : Env → Res (List D)} {pos : Pos} (he : DF Γ k X W e f) : DS Γ k X W (.Return (some e) pos) (S.retF f) := fun St => by
  obtain ⟨te, pe, re⟩ := he St
  refine ⟨_, ps_ret pe, fun M0 H0 σ H ρ Dn G h => ?_⟩
  refine re M0 H0 σ H ρ _ G ((lift_post G h).imp (Same.refl H) fun ds q p vs H1 h0 e1 h1 r1 => ?_)
  refine q p vs H1 ?_ (G.ext.trans e1) h1 (RpL.imp (.weak fun a z => z.elim (fun z => .inl (.inl z)) .inr) _ _ r1)
  cases z : H0 p with
  | none => rfl
  | some o => rw [G.ext p o z] at h0; cases h0
theorem ds_retN {pos : Pos} : DS Γ k X W (.Return none pos) S.retN := fun St =>
  ⟨_, ps_retN, fun M0 H0 σ H ρ Dn G h => h _ H G.ext (by rw [Rp])⟩
/-- return of a list that a slot owns -/
theorem ds_retO (i : Nat) {x : Str} {p pos : Pos} (hN : X.N[i]? = some x := by rfl) (hv : Vis X.env.scope x := by first | exact Or.inl rfl | exact Or.inr (Or.inl rfl) | exact Or.inr (Or.inr rfl)) (hd : (x == ("__debug__" : Str)) = false := by decide)
    (hcd : (x == ("__classdict__" : Str)) = false := by decide) : DS Γ k X W (.Return (some (.Name x p)) pos) (S.retO i) := fun St => by
  refine ⟨_, ps_ret (pe_var hN hv hd hcd), fun M0 H0 σ H ρ Dn G h => ?_⟩
  unfold S.retO at h
  cases q : ρ[i]? with
  | none => rw [q] at h; exact h.elim
  | some c =>
    rw [q] at h
    cases c with
    | own ds =>
      obtain ⟨a, vs, e1, e2, r⟩ := G.cel i _ q
      refine ⟨.ref a, e1, h a vs H (G.new i a ⟨_, q, rfl, e1⟩) G.ext e2 (RpL.imp (.weak fun b z => z.elim .inl fun z => .inr ⟨i, _, q, rfl, by rw [z]; exact e1⟩) _ _ r)⟩
    | no => exact h.elim
    | val d => exact h.elim
    | ins c fs => exact h.elim
    | held y => exact h.elim
    | par ds => exact h.elim
theorem ds_ite {c : Expr} {a b : List Stmt} {t : Env → Res Bool} {f g : Env → Out} {pos : Pos} (hc : DT Γ k X W c t) (ha : DSs Γ k X W a f) (hb : DSs Γ k X W b g) : DS Γ k X W (.If c a b pos) (S.ite t f g) := fun St => by
  obtain ⟨tc, pc, rc⟩ := hc St
  obtain ⟨ta, pa, ra⟩ := ha St
  obtain ⟨tb, pb, rb⟩ := hb St
  refine ⟨_, ps_if pc pa pb, fun M0 H0 σ H ρ Dn G h => ?_⟩
  refine rc M0 H0 σ H ρ _ G ((lift_post G h).imp (Same.refl H) fun b q H1 e1 => ?_)
  cases b with
  | true => exact ra M0 H0 σ H1 ρ Dn (G.mono e1) q
  | false => exact rb M0 H0 σ H1 ρ Dn (G.mono e1) q
theorem ds_pass {pos : Pos} : DS Γ k X W (.Pass pos) S.skip := fun St => ⟨_, ps_pass, fun M0 H0 σ H ρ Dn G h => h σ H G⟩
theorem ds_break {pos : Pos} : DS Γ k X W (.Break pos) S.brk := fun St => ⟨_, ps_break, fun M0 H0 σ H ρ Dn G h => h σ H G⟩
theorem ds_continue {pos : Pos} : DS Γ k X W (.Continue pos) S.cnt := fun St => ⟨_, ps_continue, fun M0 H0 σ H ρ Dn G h => h σ H G⟩
theorem dss_nil : DSs Γ k X W [] S.skip := fun St => ⟨_, pss_nil, fun M0 H0 σ H ρ Dn G h => h σ H G⟩
theorem seq_post {M0 : Bd} {H0 : Hp} {Dn : Ends} {ts : TS} {f g : Env → Out} {ρ : Env} (rg : ∀ M0 H0 σ H ρ D, Gd Γ M0 H0 σ H ρ → PostS Γ M0 H0 W D (g ρ) → ts D σ H) (h : PostS Γ M0 H0 W Dn (S.seq f g ρ)) : PostS Γ M0 H0 W { Dn with nx := ts Dn } (f ρ) := by
  unfold S.seq at h
  cases q : f ρ with
  | next ρ' =>
    rw [q] at h
    exact fun σ H G => rg M0 H0 σ H ρ' Dn G h
  | stuck => rw [q] at h; exact h
  | ret d => rw [q] at h; exact h
  | retF d => rw [q] at h; exact h
  | exc x ρ' => rw [q] at h; exact h
  | brk ρ' => rw [q] at h; exact h
  | cnt ρ' => rw [q] at h; exact h
  | retP us d => rw [q] at h; exact h
theorem dss_cons {s : Stmt} {r : List Stmt} {f g : Env → Out} (hs : DS Γ k X W s f) (hr : DSs Γ k X W r g) : DSs Γ k X W (s :: r) (S.seq f g) := fun St => by
  obtain ⟨ts, ps, rs⟩ := hs St
  obtain ⟨tr, pr, rr⟩ := hr St
  exact ⟨_, pss_cons ps pr, fun M0 H0 σ H ρ Dn G h => rs M0 H0 σ H ρ _ G (seq_post rr h)⟩
theorem dss_one {s : Stmt} {f : Env → Out} (hs : DS Γ k X W s f) : DSs Γ k X W [s] f := fun St => by
  obtain ⟨ts, ps, rs⟩ := hs St
  exact ⟨_, pss_one ps, rs⟩
/-! ### while -/
theorem ds_while (n : Env → Nat) {c : Expr} {body : List Stmt} {t : Env → Res Bool} {b : Env → Out} {pos : Pos} (hc : DT Γ k X W c t) (hb : DSs Γ k X W body b) : DS Γ k X W (.While c body [] pos) (S.whil n t b) := fun St => by
  obtain ⟨tc, pc, rc⟩ := hc St
  obtain ⟨tb, pb, rb⟩ := hb St
  refine ⟨_, ps_while St.pas pc pb, fun M0 H0 σ H ρ Dn G h => ?_⟩
  refine ⟨fun m σ H => ∃ ρ, Gd Γ M0 H0 σ H ρ ∧ PostS Γ M0 H0 W Dn (S.whileN t b m ρ), ⟨n ρ, ρ, G, h⟩, fun m σ H ⟨ρ, G, h⟩ => ?_⟩
  cases m with
  | zero => exact h.elim
  | succ m =>
    refine rc M0 H0 σ H ρ _ G ((lift_post G h).imp (Same.refl H) fun x q H1 e1 => ?_)
    cases x with
    | false => exact (show PostS Γ M0 H0 W Dn (.next ρ) from q) σ H1 (G.mono e1)
    | true =>
      rw [if_pos rfl]
      rw [if_pos rfl] at q
      refine ⟨fun σ' H' => ∃ ρ', Gd Γ M0 H0 σ' H' ρ' ∧ PostS Γ M0 H0 W Dn (S.whileN t b m ρ'), fun σ' H' ⟨ρ', G', h'⟩ => ⟨m, Nat.lt_succ_self m, ρ', G', h'⟩, ?_⟩
      refine rb M0 H0 σ H1 ρ _ (G.mono e1) ?_
      cases z : b ρ with
      | next ρ' => rw [z] at q; exact fun σ' H' G' => ⟨ρ', G', q⟩
      | cnt ρ' => rw [z] at q; exact fun σ' H' G' => ⟨ρ', G', q⟩
      | brk ρ' => rw [z] at q; exact q
      | stuck => rw [z] at q; exact q
      | ret d => rw [z] at q; exact q
      | retF d => rw [z] at q; exact q
      | exc x ρ' => rw [z] at q; exact q
      | retP us d => rw [z] at q; exact q
end
set_option Elab.async false
set_option linter.all false
set_option maxRecDepth 100000
set_option maxHeartbeats 4000000
open PySem L2
/-! ### what is walked -/
def WantI (Γ : Gam) (M : Addr → Prop) (H : Hp) (R : It → Hp → Prop) (ds : List D) : Prop := ∀ (J : It) (H1 : Hp) (G : Hp → Prop) (Y : Nat → Hp → V → Hp → Prop), Same H H1 → Walk J ds.length G Y →
  (∀ (M' : Addr → Prop) (H' : Hp), Imp M M' H1 H' → (∀ a, M' a → H' a ≠ none) → G H' ∧ ∀ i x H2, i < ds.length → Y i H' x H2 → Same H' H2 ∧ ∃ d, ds[i]? = some d ∧ Rp Γ M' H2 d x) → R J H1
theorem WantI.back {Γ : Gam} {M : Addr → Prop} {H H' : Hp} {R : It → Hp → Prop} {ds : List D} (e : Same H H') (h : WantI Γ M H R ds) : WantI Γ M H' R ds := fun J H1 G Y e1 w z => h J H1 G Y (e.trans e1) w z
def DI (Γ : Gam) (k : Nat) (X : Cx) (W : WX) (tg e : Expr) (f : Env → Res (List D)) : Prop := Sit Γ k X W → ∃ wi : TI, PI X tg e wi ∧
  ∀ M0 H0 σ H ρ R, Gd Γ M0 H0 σ H ρ → Post Γ W σ H (f ρ) (WantI Γ (Mx M0 σ ρ) H R) → wi σ H R
/-- a target: an item is stored (M: what the item avoids) -/
def DG (Γ : Gam) (k : Nat) (X : Cx) (W : WX) (tg : Expr) (f : D → Env → Option Env) : Prop := Sit Γ k X W → ∃ g : TG, PG X tg g ∧
  ∀ M0 H0 σ H ρ (M : Addr → Prop) (d : D) (v : V) (Q : St → Hp → Prop), Gd Γ M0 H0 σ H ρ → (∀ a, Mx M0 σ ρ a → M a) → Rp Γ M H d v → (∃ ρ', f d ρ = some ρ' ∧ ∀ σ' H', Gd Γ M0 H0 σ' H' ρ' → Same H H' → (∀ a, Mx M0 σ' ρ' a → M a) → Q σ' H') → g v σ H Q
def DGs (Γ : Gam) (k : Nat) (X : Cx) (W : WX) (tgs : List Expr) (f : List D → Env → Option Env) : Prop := Sit Γ k X W → ∃ g : TGs, PGs X tgs g ∧
  ∀ M0 H0 σ H ρ (M : Addr → Prop) (ds : List D) (vs : List V) (Q : St → Hp → Prop), Gd Γ M0 H0 σ H ρ → (∀ a, Mx M0 σ ρ a → M a) → RpL Γ M H ds vs → (∃ ρ', f ds ρ = some ρ' ∧ ∀ σ' H', Gd Γ M0 H0 σ' H' ρ' → Same H H' → (∀ a, Mx M0 σ' ρ' a → M a) → Q σ' H') → g vs σ H Q
section
variable {Γ : Gam} {k j : Nat} {X : Cx} {W : WX}
theorem dg_name (i : Nat) {x : Str} {pos : Pos} (nd : X.N.Nodup) (hi : X.N[i]? = some x := by rfl) (hx : Loc X.env.scope x := by first | exact Or.inl rfl | exact Or.inr rfl) (hf : X.fn x = true ∨ X.env.scope.names.lookup x = some .local := by first | exact .inl rfl | exact .inr rfl) :
    DG Γ k X W (.Name x pos) (S.tgt i) := fun St => by
  refine ⟨_, pg_name nd hi hx hf, fun M0 H0 σ H ρ M d v Q G hm r h => ?_⟩
  obtain ⟨ρ', e, h⟩ := h
  unfold S.tgt at e
  split at e
  · rename_i hi
    cases e
    refine h _ _ (G.set_val hi (Same.refl H) (Rp.imp (.weak hm) d v r)) (Same.refl H) fun a z => hm a ?_
    rcases z with z | ⟨j, z⟩
    · exact .inl z
    · exact .inr ⟨j, (own_set_val z).1⟩
  · cases e
theorem dgs_nil : DGs Γ k X W [] S.gnil := fun St => by
  refine ⟨_, pgs_nil, fun M0 H0 σ H ρ M ds vs Q G hm r h => ?_⟩
  obtain ⟨ρ', e, h⟩ := h
  cases ds with
  | nil =>
    cases e
    rw [RpL] at r
    exact ⟨r, h σ H G (Same.refl H) hm⟩
  | cons d ds => cases e
theorem dgs_cons {e : Expr} {es : List Expr} {g : D → Env → Option Env} {f : List D → Env → Option Env} (hd : DG Γ k X W e g) (ht : DGs Γ k X W es f)
    (hs : (assignEach (e :: es) X.env).map (·.2) = assign e X.env :: (assignEach es X.env).map (·.2) := by rfl) : DGs Γ k X W (e :: es) (S.gcons g f) := fun St => by
  obtain ⟨g1, p1, r1⟩ := hd St
  obtain ⟨g2, p2, r2⟩ := ht St
  refine ⟨_, pgs_cons p1 p2 hs, fun M0 H0 σ H ρ M ds vs Q G hm r h => ?_⟩
  obtain ⟨ρ', e, h⟩ := h
  cases ds with
  | nil => cases e
  | cons d ds =>
    rw [RpL] at r
    obtain ⟨v, t, rfl, q1, q2⟩ := r
    unfold S.gcons at e
    dsimp only at e
    cases z : g d ρ with
    | none => rw [z] at e; cases e
    | some ρ1 =>
      rw [z] at e
      exact ⟨v, t, rfl, r1 M0 H0 σ H ρ M d v _ G hm q1 ⟨ρ1, z, fun σ1 H1 G1 s1 hm1 => r2 M0 H0 σ1 H1 ρ1 M ds t Q G1 hm1 (q2.mono s1) ⟨ρ', e, fun σ2 H2 G2 s2 => h σ2 H2 G2 (s1.trans s2)⟩⟩⟩
theorem dg_tup {es : List Expr} {c : Nat} {f : List D → Env → Option Env} {n : Nat} {pos : Pos} (hs : DGs Γ k X W es f) (hk : 0 < k := by first | decide | omega) (hn : (assignEach es X.env).length = n := by rfl) (hst : (assignEach es X.env).findIdx? (·.1) = none := by rfl) :
    DG Γ k X W (.Tuple es c pos) (S.gtup n f) := fun St => by
  obtain ⟨g, pg, rg⟩ := hs St
  refine ⟨_, pg_tup (St.calm hk) pg hn hst, fun M0 H0 σ H ρ M d v Q G hm r h => ?_⟩
  obtain ⟨ρ', e, h⟩ := h
  cases d with
  | tup ds =>
    rw [Rp] at r
    obtain ⟨a, vs, rfl, t, r⟩ := r
    unfold S.gtup at e
    dsimp only at e
    split at e
    · rename_i hl
      exact ⟨a, vs, rfl, by rw [St.K]; exact t.sq, by rw [r.length, hl], rg M0 H0 σ H ρ M ds vs Q G hm r ⟨ρ', e, h⟩⟩
    · cases e
  | _ => cases e
theorem ds_asg {tg e : Expr} {g : D → Env → Option Env} {f : Env → Res D} {pos : Pos} (hg : DG Γ k X W tg g) (he : DE Γ k X W e f) (hs : swapsWithSole [tg] e pos.line X.env = pure false := by rfl) (hw : swappedStores [tg] e X.env = pure none := by rfl) (hes : (assignEach [tg] X.env).map (·.2) = [assign tg X.env] := by rfl) :
    DS Γ k X W (.Assign [tg] e pos) (S.asg g f) := fun St => by
  obtain ⟨te, pe, re⟩ := he St
  obtain ⟨gt, pg, rg⟩ := hg St
  refine ⟨_, ps_asg pe pg hs hw hes, fun M0 H0 σ H ρ Dn G h => ?_⟩
  refine re M0 H0 σ H ρ _ G ((lift_post G h).imp (Same.refl H) fun d q v H1 e1 r1 => ?_)
  refine rg M0 H0 σ H1 ρ _ d v _ (G.mono e1) (fun _ z => z) r1 ?_
  cases z : g d ρ with
  | none => rw [z] at q; exact q.elim
  | some ρ' => rw [z] at q; exact ⟨ρ', rfl, fun σ' H' G' _ _ => q σ' H' G'⟩
/-- the loop's ground: what the slots do not own -/
noncomputable def ground (M0 : Bd) (σ : St) (ρ : Env) (H : Hp) : Hp := fun a => open Classical in if ∃ i, OwnAt σ ρ i a then none else H a
theorem ground_some {M0 : Bd} {σ : St} {ρ : Env} {H : Hp} {a : Addr} {o : HO} (h : ground M0 σ ρ H a = some o) : H a = some o ∧ ¬ ∃ i, OwnAt σ ρ i a := by
  unfold ground at h
  split at h
  · cases h
  · rename_i z
    exact ⟨h, z⟩
theorem ground_own {M0 : Bd} {σ : St} {ρ : Env} {H : Hp} {a : Addr} {i : Nat} (h : OwnAt σ ρ i a) : ground M0 σ ρ H a = none := by
  unfold ground
  rw [if_pos ⟨i, h⟩]
theorem ground_not {M0 : Bd} {σ : St} {ρ : Env} {H : Hp} {a : Addr} (h : ¬ ∃ i, OwnAt σ ρ i a) : ground M0 σ ρ H a = H a := by
  unfold ground
  rw [if_neg h]
theorem Gd.down {M0 : Bd} {H0 : Hp} {σ : St} {H : Hp} {ρ : Env} (G : Gd Γ M0 H0 σ H ρ) : Gd Γ M0 (ground M0 σ ρ H) σ H ρ := by
  refine ⟨G.len, fun a o h => (ground_some h).1, fun a h => ?_, G.cel, fun i p h => ground_own h, G.inj⟩
  rw [ground_not (fun ⟨i, z⟩ => G.m0 a h (G.new i a z))]
  exact fun z => Mx.alive G (.inl h) z
theorem ground_sup {M0 : Bd} {H0 : Hp} {σ : St} {H : Hp} {ρ : Env} (G : Gd Γ M0 H0 σ H ρ) : Same H0 (ground M0 σ ρ H) := fun a o h => by
  rw [ground_not (fun ⟨i, z⟩ => by rw [G.new i a z] at h; cases h)]
  exact G.ext a o h
theorem Gd.up {M0 : Bd} {H0 H0' : Hp} {σ : St} {H : Hp} {ρ : Env} (e : Same H0 H0') (m : ∀ a, M0.M a → H0 a ≠ none) (G : Gd Γ M0 H0' σ H ρ) : Gd Γ M0 H0 σ H ρ :=
  ⟨G.len, e.trans G.ext, m, G.cel, fun i p h => (by
    cases z : H0 p with
    | none => rfl
    | some o => have h1 := G.new i p h; rw [e p o z] at h1; cases h1), G.inj⟩
theorem PostS.down {M0 : Bd} {H0 H0' : Hp} {Dn : Ends} {o : Out} (e : Same H0 H0') (m : ∀ a, M0.M a → H0 a ≠ none) (h : PostS Γ M0 H0 W Dn o) : PostS Γ M0 H0' W Dn o := by
  cases o with
  | stuck => exact h
  | next ρ => exact fun σ H G => h σ H (G.up e m)
  | ret d => exact fun v H e1 r => h v H (e.trans e1) r
  | retF ds =>
    intro p vs H h0 e1 h1 r
    refine h p vs H ?_ (e.trans e1) h1 r
    cases z : H0 p with
    | none => rfl
    | some o => rw [e p o z] at h0; cases h0
  | exc x ρ => exact fun cv dd σ H G r => h cv dd σ H (G.up e m) r
  | brk ρ => exact fun σ H G => h σ H (G.up e m)
  | cnt ρ => exact fun σ H G => h σ H (G.up e m)
  | retP ds d => exact fun v us H e1 => h v us H (e.trans e1)
/-- from the loop's start to a turn of it -/
theorem turn_imp {M0 : Bd} {H0 : Hp} {σ σ' : St} {H H' : Hp} {ρ ρ' : Env} (G : Gd Γ M0 H0 σ H ρ) (G' : Gd Γ M0 (ground M0 σ ρ H) σ' H' ρ') : Imp (Mx M0 σ ρ) (Mx M0 σ' ρ') H H' := fun a o h n => by
  have hg : ground M0 σ ρ H a = some o := by
    rw [ground_not fun z => n (.inr z)]
    exact h
  refine ⟨fun z => ?_, G'.ext a o hg⟩
  rcases z with z | ⟨i, z⟩
  · exact n (.inl z)
  · rw [G'.new i a z] at hg
    cases hg
theorem ds_for {tg e : Expr} {body : List Stmt} {f : Env → Res (List D)} {g : D → Env → Option Env} {b : Env → Out} {pos : Pos} (hi : DI Γ k X W tg e f) (hg : DG Γ k X W tg g) (hb : DSs Γ k X W body b) (hk : 0 < k := by first | decide | omega)
    (hs : ∀ x, foldedSetIterable e X.env x = pure x := by intro _; rfl) : DS Γ k X W (.For tg e body [] pos) (S.forE f g b) := fun St => by
  obtain ⟨wi, pi, ri⟩ := hi St
  obtain ⟨gt, pg, rg⟩ := hg St
  obtain ⟨tb, pb, rb⟩ := hb St
  refine ⟨_, ps_for St.pas (St.calm hk) pi pg pb hs, fun M0 H0 σ H ρ Dn G h => ?_⟩
  refine ri M0 H0 σ H ρ _ G ((lift_post G h).imp (Same.refl H) fun ds q J H1 GG Y e1 w z => ?_)
  have G1 := G.mono e1
  have dn := G1.down
  have sup := ground_sup G1
  refine for_it w (fun i σ' H' => ∃ ρ', Gd Γ M0 (ground M0 σ ρ H1) σ' H' ρ' ∧ PostS Γ M0 H0 W Dn (S.forL g b (ds.drop i) ρ')) ⟨ρ, dn, q⟩ ?_ ?_ ?_
  · rintro i σ' H' _ ⟨ρ', G', _⟩
    exact (z _ _ (turn_imp G1 G') fun _ => Mx.alive G').1
  · rintro i x σ' H' H2 hi ⟨ρ', G', q'⟩ y
    obtain ⟨s1, d, hd, r⟩ := (z _ _ (turn_imp G1 G') fun _ => Mx.alive G').2 i x H2 hi y
    have ed : ds.drop i = d :: ds.drop (i + 1) := by
      rw [List.drop_eq_getElem_cons hi]
      rw [List.getElem?_eq_getElem hi] at hd
      cases hd
      rfl
    rw [ed] at q'
    refine rg M0 _ σ' H2 ρ' _ d x _ (G'.mono s1) (fun _ z => z) r ?_
    unfold S.forL at q'
    cases e2 : g d ρ' with
    | none => rw [e2] at q'; exact q'.elim
    | some ρ2 =>
      rw [e2] at q'
      refine ⟨ρ2, rfl, fun σ2 H3 G2 _ _ => rb M0 _ σ2 H3 ρ2 _ G2 ?_⟩
      dsimp only at q'
      cases e3 : b ρ2 with
      | next ρ3 => rw [e3] at q'; exact fun σ4 H4 G4 => ⟨ρ3, G4, q'⟩
      | cnt ρ3 => rw [e3] at q'; exact fun σ4 H4 G4 => ⟨ρ3, G4, q'⟩
      | brk ρ3 => rw [e3] at q'; exact fun σ4 H4 G4 => q' σ4 H4 (G4.up sup G.m0)
      | stuck => rw [e3] at q'; exact q'.elim
      | ret d => rw [e3] at q'; exact PostS.down (o := .ret d) sup G.m0 q'
      | retF d => rw [e3] at q'; exact PostS.down (o := .retF d) sup G.m0 q'
      | exc x ρ3 => rw [e3] at q'; exact PostS.down (o := .exc x ρ3) sup G.m0 q'
      | retP us d => rw [e3] at q'; exact PostS.down (o := .retP us d) sup G.m0 q'
  · rintro σ' H' ⟨ρ', G', q'⟩
    rw [List.drop_length] at q'
    exact q' σ' H' (G'.up sup G.m0)
end
set_option Elab.async false
set_option linter.all false
set_option maxRecDepth 100000
set_option maxHeartbeats 4000000
open PySem L2
/-! ### lists and tuples that are read -/
/-- l: a list (else a tuple) -/
def Sq (K : PySem.W.Frag) (l : Bool) (H : Hp) (p : Addr) (vs : List V) : Prop := if l = true then SqL K H p vs else SqT K H p vs
def WantQ (Γ : Gam) (l : Bool) (M : Addr → Prop) (H : Hp) (Q : VK) (ds : List D) : Prop := ∀ p vs H', Same H H' → Sq Γ.K l H' p vs → RpL Γ M H' ds vs → Q (.ref p) H'
/-- a tracked list -/
def WantL (Γ : Gam) (M : Addr → Prop) (H : Hp) (Q : VK) (ds : List D) : Prop := ∀ p vs H', Same H H' → H' p = some (.lst vs) → RpL Γ M H' ds vs → Q (.ref p) H'
def DQ (Γ : Gam) (k : Nat) (X : Cx) (W : WX) (l : Bool) (e : Expr) (f : Env → Res (List D)) : Prop := Sit Γ k X W → ∃ te : TE, PE X e te ∧
  ∀ M0 H0 σ H ρ Q, Gd Γ M0 H0 σ H ρ → Post Γ W σ H (f ρ) (WantQ Γ l (Mx M0 σ ρ) H Q) → te σ H Q
def DL (Γ : Gam) (k : Nat) (X : Cx) (W : WX) (e : Expr) (f : Env → Res (List D)) : Prop := Sit Γ k X W → ∃ te : TE, PE X e te ∧
  ∀ M0 H0 σ H ρ Q, Gd Γ M0 H0 σ H ρ → Post Γ W σ H (f ρ) (WantL Γ (Mx M0 σ ρ) H Q) → te σ H Q
theorem WantQ.back {Γ : Gam} {l : Bool} {M : Addr → Prop} {H H' : Hp} {Q : VK} {d : List D} (e : Same H H') (h : WantQ Γ l M H Q d) : WantQ Γ l M H' Q d := fun p vs H1 e1 => h p vs H1 (e.trans e1)
theorem WantL.back {Γ : Gam} {M : Addr → Prop} {H H' : Hp} {Q : VK} {d : List D} (e : Same H H') (h : WantL Γ M H Q d) : WantL Γ M H' Q d := fun p vs H1 e1 => h p vs H1 (e.trans e1)
theorem Sq.mono {K : PySem.W.Frag} {l : Bool} {H H' : Hp} {p : Addr} {vs : List V} (e : Same H H') (h : Sq K l H p vs) : Sq K l H' p vs := by
  unfold Sq at h ⊢
  split
  · rename_i z
    rw [if_pos z] at h
    exact e.seq h
  · rename_i z
    rw [if_neg z] at h
    rcases h with (h | ⟨o, h⟩) | h
    · exact .inl (.inl (e _ _ h))
    · exact .inl (.inr ⟨o, e _ _ h⟩)
    · exact .inr h
namespace Z
def own (i : Nat) : Env → Res (List D) := fun ρ => match ρ[i]? with
  | some (.own ds) => .ok ds
  | some (.par ds) => .ok ds
  | _ => .stuck
def lst (f : Env → Res D) : Env → Res (List D) := fun ρ => (f ρ).bind fun d => match d with
  | .lst ds => .ok ds
  | _ => .stuck
def tup (f : Env → Res D) : Env → Res (List D) := fun ρ => (f ρ).bind fun d => match d with
  | .tup ds => .ok ds
  | _ => .stuck
end Z
/-- a part of a list, as xs[lo:hi] -/
def cut {α : Type} (xs : List α) (lo hi : Option Int) : List α := (xs.drop (HT.sIx xs.length 0 lo)).take (HT.sIx xs.length xs.length hi - HT.sIx xs.length 0 lo)
namespace E
def len (q : Env → Res (List D)) : Env → Res D := fun ρ => (q ρ).bind fun ds => .ok (.int ds.length)
def ix (q : Env → Res (List D)) (f : Env → Res D) : Env → Res D := fun ρ => (q ρ).bind fun ds => (f ρ).bind fun i => match i with
  | .int i => (match atI ds i with
    | some d => .ok d
    | none => .stuck)
  | _ => .stuck
def ixS (q f : Env → Res D) : Env → Res D := fun ρ => (q ρ).bind fun x => (f ρ).bind fun i => match x, i with
  | .str z, .int i => if z.length ≤ sizeLine then (match atI z.cps.toList i with
    | some c => .ok (.str ⟨#[c]⟩)
    | none => .stuck) else .stuck
  | _, _ => .stuck
def tupl (f : Env → Res (List D)) : Env → Res D := fun ρ => (f ρ).bind fun ds => if ds.length ≤ sizeLine then .ok (.tup ds) else .stuck
def disp (f : Env → Res (List D)) : Env → Res (List D) := fun ρ => (f ρ).bind fun ds => if ds.length ≤ sizeLine then .ok ds else .stuck
def asTup (f : Env → Res (List D)) : Env → Res D := fun ρ => (f ρ).bind fun ds => .ok (.tup ds)
def cat (f g : Env → Res (List D)) : Env → Res (List D) := fun ρ => (f ρ).bind fun xs => (g ρ).bind fun ys => if xs.length + ys.length ≤ sizeLine then .ok (xs ++ ys) else .stuck
def part (f : Env → Res D) : Env → Res (Option Int) := fun ρ => (f ρ).bind fun d => match d with
  | .int i => .ok (some i)
  | _ => .stuck
def nopart : Env → Res (Option Int) := fun _ => .ok none
def cutL (q : Env → Res (List D)) (lo hi : Env → Res (Option Int)) : Env → Res (List D) := fun ρ => (q ρ).bind fun xs => (lo ρ).bind fun a => (hi ρ).bind fun b => .ok (De.cut xs a b)
def cutT (q : Env → Res (List D)) (lo hi : Env → Res (Option Int)) : Env → Res D := fun ρ => (q ρ).bind fun xs => (lo ρ).bind fun a => (hi ρ).bind fun b => .ok (.tup (De.cut xs a b))
end E
section
variable {Γ : Gam} {k j : Nat} {X : Cx} {W : WX} {l : Bool}
theorem dl_own (i : Nat) {x : Str} {pos : Pos} (hN : X.N[i]? = some x := by rfl) (hv : Vis X.env.scope x := by first | exact Or.inl rfl | exact Or.inr (Or.inl rfl) | exact Or.inr (Or.inr rfl)) (hd : (x == ("__debug__" : Str)) = false := by decide)
    (hcd : (x == ("__classdict__" : Str)) = false := by decide) : DL Γ k X W (.Name x pos) (Z.own i) := fun S => by
  refine ⟨_, pe_var hN hv hd hcd, fun M0 H0 σ H ρ Q G h => ?_⟩
  unfold Z.own at h
  cases q : ρ[i]? with
  | none => rw [q] at h; exact h.elim
  | some c =>
    rw [q] at h
    cases c with
    | own ds =>
      obtain ⟨p, vs, e, h1, r⟩ := G.cel i _ q
      exact ⟨.ref p, e, h p vs H (Same.refl H) h1 r⟩
    | no => exact h.elim
    | val d => exact h.elim
    | ins c fs => exact h.elim
    | held y => exact h.elim
    | par ds =>
      obtain ⟨vs, e, h1, r⟩ := G.cel i _ q
      exact ⟨.ref M0.x, e, h M0.x vs H (Same.refl H) h1 r⟩
theorem dl_df {e : Expr} {f : Env → Res (List D)} (h : DF Γ k X W e f) : DL Γ k X W e f := fun S => by
  obtain ⟨te, pe, r⟩ := h S
  exact ⟨te, pe, fun M0 H0 σ H ρ Q G h => r M0 H0 σ H ρ Q G (h.imp (Same.refl H) fun ds w p vs H' h0 e h1 r => w p vs H' e h1 (RpL.imp (.weak fun a z => .inl z) _ _ r))⟩
theorem dq_dl {e : Expr} {f : Env → Res (List D)} (h : DL Γ k X W e f) : DQ Γ k X W true e f := fun S => by
  obtain ⟨te, pe, r⟩ := h S
  exact ⟨te, pe, fun M0 H0 σ H ρ Q G h => r M0 H0 σ H ρ Q G (h.imp (Same.refl H) fun ds w p vs H' e h1 r => w p vs H' e (by unfold Sq; rw [if_pos rfl]; exact SqL.of h1) r)⟩
theorem dq_own (i : Nat) {x : Str} {pos : Pos} (hN : X.N[i]? = some x := by rfl) (hv : Vis X.env.scope x := by first | exact Or.inl rfl | exact Or.inr (Or.inl rfl) | exact Or.inr (Or.inr rfl)) (hd : (x == ("__debug__" : Str)) = false := by decide)
    (hcd : (x == ("__classdict__" : Str)) = false := by decide) : DQ Γ k X W true (.Name x pos) (Z.own i) := dq_dl (dl_own i hN hv hd hcd)
theorem dq_df {e : Expr} {f : Env → Res (List D)} (h : DF Γ k X W e f) : DQ Γ k X W true e f := dq_dl (dl_df h)
theorem dq_lst {e : Expr} {f : Env → Res D} (h : DE Γ k X W e f) : DQ Γ k X W true e (Z.lst f) := fun S => by
  obtain ⟨te, pe, r⟩ := h S
  refine ⟨te, pe, fun M0 H0 σ H ρ Q G h => r M0 H0 σ H ρ Q G ((Post.bind h).imp (Same.refl H) fun d w v H' e r => ?_)⟩
  cases d with
  | lst ds =>
    rw [Rp] at r
    obtain ⟨p, vs, rfl, t, r⟩ := r
    exact (show WantQ Γ true _ H Q ds from w) p vs H' e (by unfold Sq; rw [if_pos rfl]; exact t.sq) r
  | _ => exact (show False from w).elim
theorem dq_tup {e : Expr} {f : Env → Res D} (h : DE Γ k X W e f) : DQ Γ k X W false e (Z.tup f) := fun S => by
  obtain ⟨te, pe, r⟩ := h S
  refine ⟨te, pe, fun M0 H0 σ H ρ Q G h => r M0 H0 σ H ρ Q G ((Post.bind h).imp (Same.refl H) fun d w v H' e r => ?_)⟩
  cases d with
  | tup ds =>
    rw [Rp] at r
    obtain ⟨p, vs, rfl, t, r⟩ := r
    exact (show WantQ Γ false _ H Q ds from w) p vs H' e (by unfold Sq; rw [if_neg Bool.false_ne_true]; exact t.sq) r
  | _ => exact (show False from w).elim
/-! ### displays -/
theorem de_tupl {es : List Expr} {c : Nat} {f : Env → Res (List D)} {pos : Pos} (ha : DA Γ k X W es f) : DE Γ k X W (.Tuple es c pos) (E.tupl f) := fun S => by
  obtain ⟨ta, pa, ra⟩ := ha S
  refine ⟨_, pe_tup pa, fun M0 H0 σ H ρ Q G h => ra M0 H0 σ H ρ _ G ((Post.bind h).imp (Same.refl H) fun ds w vs H1 e1 r => ?_)⟩
  split at w
  · rename_i hl
    refine ⟨by rw [r.length]; exact hl, fun p hp => (show WantE Γ _ H Q (.tup ds) from w) _ _ (e1.trans (Same.trans (Same.refl _) fun a o h => by rw [upd_ne (ne_of_none h hp)]; exact h)) ?_⟩
    rw [Rp]
    refine ⟨p, vs, rfl, .inl ⟨.inl upd_same, fun z => Mx.alive (G.mono e1) z hp⟩, r.mono fun a o h => by rw [upd_ne (ne_of_none h hp)]; exact h⟩
  · exact (show False from w).elim
theorem new_lst {M : Addr → Prop} {H H1 : Hp} {Q : VK} {ds : List D} {vs : List V} {p : Addr} (w : WantF Γ M H Q ds) (e1 : Same H H1) (r : RpL Γ M H1 ds vs) (hp : H1 p = none) : Q (.ref p) (upd H1 p (.lst vs)) := by
  have s : Same H1 (upd H1 p (.lst vs)) := fun a o h => by rw [upd_ne (ne_of_none h hp)]; exact h
  refine w p vs _ (e1.free hp) (e1.trans s) upd_same (RpL.imp (Imp.trans (Imp.fresh hp) (.mono s)) _ _ r)
theorem df_lst {es : List Expr} {f : Env → Res (List D)} {pos : Pos} (ha : DA Γ k X W es f) : DF Γ k X W (.List es pos) (E.disp f) := fun S => by
  obtain ⟨ta, pa, ra⟩ := ha S
  refine ⟨_, pe_lst pa, fun M0 H0 σ H ρ Q G h => ra M0 H0 σ H ρ _ G ((Post.bind h).imp (Same.refl H) fun ds w vs H1 e1 r => ?_)⟩
  split at w
  · rename_i hl
    exact ⟨by rw [r.length]; exact hl, fun p hp => new_lst w e1 r hp⟩
  · exact (show False from w).elim
/-! ### reading -/
theorem RpL.atI {M : Addr → Prop} {H : Hp} {ds : List D} {vs : List V} {i : Int} {d : D} (r : RpL Γ M H ds vs) (h : L2.atI ds i = some d) : ∃ v, L2.atI vs i = some v ∧ Rp Γ M H d v := by
  unfold L2.atI at h ⊢
  rw [r.length]
  cases q : ixN ds.length i with
  | none => rw [q] at h; cases h
  | some j =>
    rw [q] at h
    exact r.get (i := j) h
theorem de_ix {a b : Expr} {q : Env → Res (List D)} {f : Env → Res D} {pos : Pos} (ha : DQ Γ k X W l a q) (hb : DE Γ k X W b f) (hs : PlainIx b := by intro _ _; rfl) : DE Γ k X W (.Subscript a b pos) (E.ix q f) := fun S => by
  obtain ⟨ta, pa, ra⟩ := ha S
  obtain ⟨tb, pb, rb⟩ := hb S
  refine ⟨_, pe_ix ix_seq pa pb hs, fun M0 H0 σ H ρ Q G h => ?_⟩
  refine ra M0 H0 σ H ρ _ G ((Post.bind h).imp (Same.refl H) fun ds w p vs H1 e1 sq r => ?_)
  have G1 := G.mono e1
  refine rb M0 H0 σ H1 ρ _ G1 ((Post.bind w).imp e1 fun d w2 v H2 e2 r2 => ?_)
  cases d with
  | int i =>
    rw [Rp] at r2
    subst r2
    cases z : L2.atI ds i with
    | none =>
      dsimp only at w2
      rw [z] at w2
      exact w2.elim
    | some d =>
      dsimp only at w2
      rw [z] at w2
      obtain ⟨u, h1, h2⟩ := (r.mono e2).atI z
      have sq2 := sq.mono e2
      have fin := (show WantE Γ _ H Q d from w2) u H2 (e1.trans e2) h2
      unfold Sq at sq2
      split at sq2
      · exact .inl ⟨p, vs, i, u, rfl, rfl, by rw [S.K]; exact sq2, h1, fin⟩
      · exact .inr (.inl ⟨p, vs, i, u, rfl, rfl, by rw [S.K]; exact sq2, h1, fin⟩)
  | _ => exact (show False from w2).elim
theorem de_ixS {a b : Expr} {q f : Env → Res D} {pos : Pos} (ha : DE Γ k X W a q) (hb : DE Γ k X W b f) (hs : PlainIx b := by intro _ _; rfl) : DE Γ k X W (.Subscript a b pos) (E.ixS q f) := fun S => by
  obtain ⟨ta, pa, ra⟩ := ha S
  obtain ⟨tb, pb, rb⟩ := hb S
  refine ⟨_, pe_ix ix_str pa pb hs, fun M0 H0 σ H ρ Q G h => ?_⟩
  refine ra M0 H0 σ H ρ _ G ((Post.bind h).imp (Same.refl H) fun x w v H1 e1 r => ?_)
  have G1 := G.mono e1
  refine rb M0 H0 σ H1 ρ _ G1 ((Post.bind w).imp e1 fun d w2 u H2 e2 r2 => ?_)
  cases x <;> cases d <;> first | exact (show False from w2).elim | skip
  rename_i z i
  rw [Rp] at r; rw [Rp] at r2
  dsimp only at w2
  split at w2
  · rename_i hz
    cases q : L2.atI z.cps.toList i with
    | none => rw [q] at w2; exact w2.elim
    | some c =>
      rw [q] at w2
      exact ⟨z, i, c, r, r2, hz, q, (show WantE Γ _ H Q _ from w2) _ H2 (e1.trans e2) (by rw [Rp])⟩
  · exact w2.elim
theorem de_len {e : Expr} {q : Env → Res (List D)} {p pos : Pos} (ha : DQ Γ k X W l e q) (hm : Γ.mg "len" = none) (hg : Gl X "len" := by rfl) (hst : starEach [e] X.env = (false, eval e X.env) :: starEach [] X.env := by rfl)
    (hpl : (backTo pos (starEach [] X.env)).any (·.1) = false := by rfl) : DE Γ k X W (.Call (.Name "len" p) [e] [] pos) (E.len q) := fun S => by
  obtain ⟨ta, pa, ra⟩ := ha S
  refine ⟨_, pe_callB call_len_seq hg (by rw [S.mg]; exact hm) PySem.boot_len (pa_cons pa pa_nil hst) (he := hst) (hpl := hpl), fun M0 H0 σ H ρ Q G h => ?_⟩
  refine ra M0 H0 σ H ρ _ G ((Post.bind h).imp (Same.refl H) fun ds w p vs H1 e1 sq r => ?_)
  refine ⟨p, vs, rfl, ?_, (show WantE Γ _ H Q _ from w) _ H1 e1 (by rw [Rp, r.length])⟩
  unfold Sq at sq
  split at sq
  · exact .inl (by rw [S.K]; exact sq)
  · exact .inr (by rw [S.K]; exact sq)
theorem de_lenS {e : Expr} {f : Env → Res D} {p pos : Pos} (ha : DE Γ k X W e f) (hm : Γ.mg "len" = none) (hg : Gl X "len" := by rfl) (hst : starEach [e] X.env = (false, eval e X.env) :: starEach [] X.env := by rfl) (hpl : (backTo pos (starEach [] X.env)).any (·.1) = false := by rfl) : DE Γ k X W (.Call (.Name "len" p) [e] [] pos) (E.op1 (fun d => match d with
    | .str z => if z.length ≤ sizeLine then .ok (.int z.length) else .stuck
    | _ => .stuck) f) := fun S => by
  obtain ⟨ta, pa, ra⟩ := ha S
  refine ⟨_, pe_callB call_len_str hg (by rw [S.mg]; exact hm) PySem.boot_len (pa_cons pa pa_nil hst) (he := hst) (hpl := hpl), fun M0 H0 σ H ρ Q G h => ?_⟩
  refine ra M0 H0 σ H ρ _ G ((Post.bind h).imp (Same.refl H) fun d w v H1 e1 r => ?_)
  cases d with
  | str z =>
    rw [Rp] at r
    subst r
    dsimp only at w
    split at w
    · rename_i hz
      exact ⟨z, rfl, hz, (show WantE Γ _ H Q _ from w) _ H1 e1 (by rw [Rp])⟩
    · exact w.elim
  | _ => exact (show False from w).elim
/-! ### list(x), tuple(x), +, slices -/
theorem df_list {e : Expr} {q : Env → Res (List D)} {p pos : Pos} (ha : DQ Γ k X W l e q) (hm : Γ.mg "list" = none) (hg : Gl X "list" := by rfl) (hst : starEach [e] X.env = (false, eval e X.env) :: starEach [] X.env := by rfl) (hpl : (backTo pos (starEach [] X.env)).any (·.1) = false := by rfl) : DF Γ k X W (.Call (.Name "list" p) [e] [] pos) q := fun S => by
  obtain ⟨ta, pa, ra⟩ := ha S
  refine ⟨_, pe_callTy call_list_of hg (by rw [S.mg]; exact hm) (by decide +kernel) (pa_cons pa pa_nil hst) (he := hst) (hpl := hpl), fun M0 H0 σ H ρ Q G h => ?_⟩
  refine ra M0 H0 σ H ρ _ G (h.imp (Same.refl H) fun ds w p vs H1 e1 sq r => ?_)
  refine ⟨p, vs, rfl, ?_, fun b hb => new_lst w e1 r hb⟩
  unfold Sq at sq
  split at sq
  · exact .inl (by rw [S.K]; exact sq)
  · exact .inr (by rw [S.K]; exact sq)
theorem de_tuple {e : Expr} {q : Env → Res (List D)} {p pos : Pos} (ha : DQ Γ k X W true e q) (hm : Γ.mg "tuple" = none) (hg : Gl X "tuple" := by rfl) (hst : starEach [e] X.env = (false, eval e X.env) :: starEach [] X.env := by rfl) (hpl : (backTo pos (starEach [] X.env)).any (·.1) = false := by rfl) : DE Γ k X W (.Call (.Name "tuple" p) [e] [] pos) (E.asTup q) := fun S => by
  obtain ⟨ta, pa, ra⟩ := ha S
  refine ⟨_, pe_callTy call_tuple_of hg (by rw [S.mg]; exact hm) (by decide +kernel) (pa_cons pa pa_nil hst) (he := hst) (hpl := hpl), fun M0 H0 σ H ρ Q G h => ?_⟩
  refine ra M0 H0 σ H ρ _ G ((Post.bind h).imp (Same.refl H) fun ds w p vs H1 e1 sq r => ?_)
  refine ⟨p, vs, rfl, .inl ⟨by unfold Sq at sq; rw [if_pos rfl] at sq; rw [S.K]; exact sq, fun b hb => ?_⟩⟩
  have s : Same H1 (upd H1 b (.tup vs)) := fun a o h => by rw [upd_ne (ne_of_none h hb)]; exact h
  refine (show WantE Γ _ H Q _ from w) _ _ (e1.trans s) ?_
  rw [Rp]
  exact ⟨b, vs, rfl, .inl ⟨.inl upd_same, fun z => Mx.alive (G.mono e1) z hb⟩, r.mono s⟩
theorem de_tupleT {e : Expr} {f : Env → Res D} {p pos : Pos} (ha : DE Γ k X W e f) (hm : Γ.mg "tuple" = none) (hg : Gl X "tuple" := by rfl) (hst : starEach [e] X.env = (false, eval e X.env) :: starEach [] X.env := by rfl) (hpl : (backTo pos (starEach [] X.env)).any (·.1) = false := by rfl) : DE Γ k X W (.Call (.Name "tuple" p) [e] [] pos) (E.op1 (fun d => match d with
    | .tup ds => .ok (.tup ds)
    | _ => .stuck) f) := fun S => by
  obtain ⟨ta, pa, ra⟩ := ha S
  refine ⟨_, pe_callTy call_tuple_of hg (by rw [S.mg]; exact hm) (by decide +kernel) (pa_cons pa pa_nil hst) (he := hst) (hpl := hpl), fun M0 H0 σ H ρ Q G h => ?_⟩
  refine ra M0 H0 σ H ρ _ G ((Post.bind h).imp (Same.refl H) fun d w v H1 e1 r => ?_)
  cases d with
  | tup ds =>
    have r' := r
    rw [Rp] at r'
    obtain ⟨p, vs, rfl, t, _⟩ := r'
    exact ⟨p, vs, rfl, .inr ⟨by rw [S.K]; exact t.sq, (show WantE Γ _ H Q _ from w) _ H1 e1 r⟩⟩
  | _ => exact (show False from w).elim
theorem df_cat {a b : Expr} {f g : Env → Res (List D)} {pos : Pos} (ha : DL Γ k X W a f) (hb : DL Γ k X W b g) : DF Γ k X W (.BinOp a .Add b pos) (E.cat f g) := fun S => by
  obtain ⟨ta, pa, ra⟩ := ha S
  obtain ⟨tb, pb, rb⟩ := hb S
  refine ⟨_, pe_op op_cat pa pb, fun M0 H0 σ H ρ Q G h => ?_⟩
  refine ra M0 H0 σ H ρ _ G ((Post.bind h).imp (Same.refl H) fun xs w p vs H1 e1 h1 r => ?_)
  have G1 := G.mono e1
  refine rb M0 H0 σ H1 ρ _ G1 ((Post.bind w).imp e1 fun ys w2 p2 us H2 e2 h2 r2 => ?_)
  split at w2
  · rename_i hl
    exact ⟨p, p2, vs, us, rfl, rfl, e2 _ _ h1, h2, by rw [r.length, r2.length]; exact hl, fun b hb => new_lst w2 (e1.trans e2) ((r.mono e2).append r2) hb⟩
  · exact (show False from w2).elim
/-- a part of a slice -/
def DP (Γ : Gam) (k : Nat) (X : Cx) (W : WX) (o : Option Expr) (f : Env → Res (Option Int)) : Prop := Sit Γ k X W → ∃ to : TO, PO X o to ∧
  ∀ M0 H0 σ H ρ (Q : Option Int → Hp → Prop), Gd Γ M0 H0 σ H ρ → Post Γ W σ H (f ρ) (fun i => ∀ H', Same H H' → Q i H') → to σ H Q
theorem dp_none : DP Γ k X W none E.nopart := fun S => ⟨_, po_none, fun M0 H0 σ H ρ Q G h => h H (Same.refl H)⟩
theorem dp_some {e : Expr} {f : Env → Res D} (he : DE Γ k X W e f) : DP Γ k X W (some e) (E.part f) := fun S => by
  obtain ⟨te, pe, re⟩ := he S
  refine ⟨_, po_some pe, fun M0 H0 σ H ρ Q G h => re M0 H0 σ H ρ _ G ((Post.bind h).imp (Same.refl H) fun d w v H1 e1 r => ?_)⟩
  cases d with
  | int i =>
    rw [Rp] at r
    exact ⟨i, r, w H1 e1⟩
  | _ => exact (show False from w).elim
theorem RpL.cut {M : Addr → Prop} {H : Hp} {ds : List D} {vs : List V} (r : RpL Γ M H ds vs) (a b : Option Int) : RpL Γ M H (De.cut ds a b) (cutV vs a b) := by
  unfold De.cut cutV
  rw [r.length]
  exact (r.drop _).take _
theorem df_cut {a : Expr} {lo hi : Option Expr} {q : Env → Res (List D)} {f g : Env → Res (Option Int)} {p2 pos : Pos} (ha : DQ Γ k X W true a q) (hl : DP Γ k X W lo f) (hh : DP Γ k X W hi g) : DF Γ k X W (.Subscript a (.Slice lo hi none p2) pos) (E.cutL q f g) := fun S => by
  obtain ⟨ta, pa, ra⟩ := ha S
  obtain ⟨tl, pl, rl⟩ := hl S
  obtain ⟨th, ph, rh⟩ := hh S
  refine ⟨_, pe_slice sl_list pa pl ph, fun M0 H0 σ H ρ Q G h => ?_⟩
  refine ra M0 H0 σ H ρ _ G ((Post.bind h).imp (Same.refl H) fun xs w p vs H1 e1 sq r => ?_)
  refine rl M0 H0 σ H1 ρ _ (G.mono e1) ((Post.bind w).imp e1 fun i w2 H2 e2 => ?_)
  refine rh M0 H0 σ H2 ρ _ ((G.mono e1).mono e2) ((Post.bind w2).imp (e1.trans e2) fun j w3 H3 e3 => ?_)
  have e := (e1.trans e2).trans e3
  have sq3 := (sq.mono e2).mono e3
  unfold Sq at sq3
  rw [if_pos rfl] at sq3
  exact ⟨p, vs, rfl, by rw [S.K]; exact sq3, fun b hb => new_lst w3 e (((r.mono e2).mono e3).cut i j) hb⟩
end
set_option Elab.async false
set_option linter.all false
set_option maxRecDepth 100000
set_option maxHeartbeats 4000000
open PySem L2
/-! ### the type of a datum -/
def tyv (Γ : Gam) : D → Value
  | .non => .type "NoneType"
  | .bl _ => .type "bool"
  | .int _ => .type "int"
  | .str _ => .type "str"
  | .tup _ => .type "tuple"
  | .lst _ => .type "list"
  | .obj c _ => .ref (Γ.cls c)
structure InsOk (Γ : Gam) (c : Nat) : Prop where
  cl : Cls Γ.K (Γ.cls c)
  hc : PySem.W.findIn Γ.K (.ref (Γ.cls c)) "__class__" = some (some (.builtin "object.__class__"))
  hn : PySem.W.specialIn Γ.K (.builtin "object.__class__") "__get__" = some (some (.builtin "getset_descriptor.__get__"))
  tk : PySem.W.takesIn Γ.K (.builtin "object.__class__") = some true
  mo : PySem.W.mroIn Γ.K (Γ.cls c) (.type "object") = some true
theorem ClsOk.ins {Γ : Gam} {c : Nat} {x : Str} (h : ClsOk Γ c x) : InsOk Γ c := ⟨h.cl, h.hc, h.hn, h.tk, h.mo⟩
section
variable {Γ : Gam} {k j : Nat} {X : Cx} {W : WX}
theorem looks_ref {M : Model} {h : Heap} {a : Addr} {o : Obj} {t : Value} (e : h.get? a = some o) (hc : o.cls = t) : PySem.W.Looks M h (typeOf (.ref a)) t := fun A Q E s kp q => wpAny_typeOf_ref (kp _ _ e) (by rw [hc]; exact q)
theorem tyLooks {pins : List (Addr × Obj)} {σ : St} {H : Hp} {s : Shared} {M : Addr → Prop} {d : D} {v : V} {u : Value} (hK : X.K = Γ.K) (I : Inv X pins σ H s) (rv : RelV v u) (r : Rp Γ M H d v) {Md : Model} : PySem.W.Looks Md s.heap (typeOf u) (tyv Γ d) := by
  cases d with
  | non => rw [Rp] at r; subst r; cases rv; exact PySem.W.Looks.of_pure rfl
  | bl b => rw [Rp] at r; subst r; cases rv; exact PySem.W.Looks.of_pure rfl
  | int i => rw [Rp] at r; subst r; obtain ⟨t, rfl⟩ := rv; exact PySem.W.Looks.of_pure rfl
  | str x => rw [Rp] at r; subst r; obtain ⟨t, rfl⟩ := rv; exact PySem.W.Looks.of_pure rfl
  | tup ds =>
    rw [Rp] at r
    obtain ⟨a, vs, rfl, t, _⟩ := r
    cases rv
    obtain ⟨its, _, ⟨o, e, hc, _⟩, _⟩ := I.tuple (by rw [hK]; exact t.sq)
    exact looks_ref e hc
  | lst ds =>
    rw [Rp] at r
    obtain ⟨a, vs, rfl, t, _⟩ := r
    cases rv
    obtain ⟨its, _, ⟨o, n, e, hc, _, _⟩, _⟩ := I.list (by rw [hK]; exact t.sq)
    exact looks_ref e hc
  | obj c fs =>
    obtain ⟨a, dx, us, rfl, h, _⟩ := obj_at r
    cases rv
    obtain ⟨_, _, J⟩ := ins_at I h
    exact J.type
theorem tyX {M : Addr → Prop} {H : Hp} {d : D} {v : V} (r : Rp Γ M H d v) (ho : ∀ c fs, d = .obj c fs → InsOk Γ c) : TyX Γ.K H v (tyv Γ d) := by
  cases d with
  | non => rw [Rp] at r; subst r; exact .base .non
  | bl b => rw [Rp] at r; subst r; exact .base (.bl b)
  | int i => rw [Rp] at r; subst r; exact .base (.int i)
  | str x => rw [Rp] at r; subst r; exact .base (.str x)
  | tup ds =>
    rw [Rp] at r
    obtain ⟨a, vs, rfl, t, _⟩ := r
    rcases t with ⟨t | ⟨o, t⟩, _⟩ | ⟨o, its, n, t, hc, _⟩
    · exact .base (.tup t)
    · exact .fTuple t
    · exact .kTuple t hc
  | lst ds =>
    rw [Rp] at r
    obtain ⟨a, vs, rfl, t, _⟩ := r
    rcases t with ⟨t | ⟨o, t⟩, _⟩ | ⟨o, its, n, t, hc, _⟩
    · exact .base (.lst t)
    · exact .base (.frz t)
    · exact .kList t hc
  | obj c fs =>
    obtain ⟨a, dx, us, rfl, h, _⟩ := obj_at r
    have z := ho c fs rfl
    exact .base (.ins h z.cl z.hc z.hn z.tk z.mo)
/-! ### isinstance -/
/-- tst: what is answered of a datum, where it is known -/
structure IsiOk (Γ : Gam) (u : Value) (tst : D → Option Bool) : Prop where
  ok : ∀ d b, tst d = some b → PySem.W.kitOne Γ.K (tyv Γ d) u = some b
  obj : ∀ c fs b, tst (.obj c fs) = some b → InsOk Γ c
def isiR (tst : D → Option Bool) : D → Res D := fun d => match tst d with
  | some b => .ok (.bl b)
  | none => .stuck
theorem isi_run {e ce : Expr} {f : Env → Res D} {tst : D → Option Bool} {cv : V} {u : Value} {tc : TE} {p pos : Pos} (O : IsiOk Γ u tst) (hu : ClsV cv u) (he : DE Γ k X W e f) (pc : PE X ce tc) (hc : ∀ σ H (Q : VK), Q cv H → tc σ H Q) (hm : Γ.mg "isinstance" = none) (hg : Gl X "isinstance" := by rfl)
    (hst : starEach [e, ce] X.env = (false, eval e X.env) :: starEach [ce] X.env := by rfl) (hst2 : starEach [ce] X.env = (false, eval ce X.env) :: starEach [] X.env := by rfl) (hpl : (backTo pos (starEach [ce] X.env)).any (·.1) = false := by rfl) :
    DE Γ k X W (.Call (.Name "isinstance" p) [e, ce] [] pos) (E.op1 (isiR tst) f) := fun S => by
  obtain ⟨te, pe, re⟩ := he S
  refine ⟨_, pe_callB call_isi hg (by rw [S.mg]; exact hm) (by decide +kernel) (pa_cons pe (pa_cons pc pa_nil hst2) hst) (he := hst) (hpl := hpl), fun M0 H0 σ H ρ Q G h => ?_⟩
  refine re M0 H0 σ H ρ _ G ((Post.bind h).imp (Same.refl H) fun d w v H1 e1 r => ?_)
  refine hc σ H1 _ ?_
  unfold isiR at w
  cases q : tst d with
  | none => rw [q] at w; exact w.elim
  | some b =>
    rw [q] at w
    exact ⟨v, cv, tyv Γ d, u, b, rfl, hu, by rw [S.K]; exact tyX r fun c fs e => O.obj c fs b (by rw [← e]; exact q), by rw [S.K]; exact O.ok d b q, (show WantE Γ _ H Q _ from w) _ H1 e1 (by rw [Rp])⟩
/-- isinstance(e, T), T a built-in type by its name -/
theorem de_isiT {e : Expr} {f : Env → Res D} {tst : D → Option Bool} {T : Str} {t : String} {p p2 pos : Pos} (O : IsiOk Γ (.type t) tst) (he : DE Γ k X W e f) (hm : Γ.mg "isinstance" = none) (hmT : Γ.mg T = none) (hv : bootBuiltins T = some (.type t)) (hg : Gl X "isinstance" := by rfl) (hgT : Gl X T := by rfl)
    (hn : T ≠ "__name__" := by decide) (hdb : (T == ("__debug__" : Str)) = false := by decide)
    (hst : starEach [e, .Name T p2] X.env = (false, eval e X.env) :: starEach [.Name T p2] X.env := by rfl) (hst2 : starEach [.Name T p2] X.env = (false, eval (.Name T p2) X.env) :: starEach [] X.env := by rfl) (hpl : (backTo pos (starEach [.Name T p2] X.env)).any (·.1) = false := by rfl) :
    DE Γ k X W (.Call (.Name "isinstance" p) [e, .Name T p2] [] pos) (E.op1 (isiR tst) f) := fun S =>
  isi_run (p := p) O (.ty t) he (pe_bltn (v := .ty t) hgT (by rw [S.mg]; exact hmT) hv rfl hn hdb) (fun σ H Q q => q) hm hg hst hst2 hpl S
/-- isinstance(e, C), C a class of the program -/
theorem de_isiC {e : Expr} {f : Env → Res D} {tst : D → Option Bool} {c : Nat} {x : Str} {p p2 pos : Pos} (O : IsiOk Γ (.ref (Γ.cls c)) tst) (K : ClsOk Γ c x) (he : DE Γ k X W e f) (hm : Γ.mg "isinstance" = none) (hg : Gl X "isinstance" := by rfl) (hgT : Gl X x := by rfl)
    (hdb : (x == ("__debug__" : Str)) = false := by decide)
    (hst : starEach [e, .Name x p2] X.env = (false, eval e X.env) :: starEach [.Name x p2] X.env := by rfl) (hst2 : starEach [.Name x p2] X.env = (false, eval (.Name x p2) X.env) :: starEach [] X.env := by rfl) (hpl : (backTo pos (starEach [.Name x p2] X.env)).any (·.1) = false := by rfl) :
    DE Γ k X W (.Call (.Name "isinstance" p) [e, .Name x p2] [] pos) (E.op1 (isiR tst) f) := fun S =>
  isi_run (p := p) O (.own (Γ.cls c)) he (pe_glob (v := .ref (Γ.cls c)) hgT (by rw [S.mg]; exact K.mg) rfl hdb) (fun σ H Q q => q) hm hg hst hst2 hpl S
/-! ### built-in functions of ints -/
theorem de_call1 {e : Expr} {f : Env → Res D} {x : Str} {id : String} {r : List V → Hp → VK → Prop} {g : D → Res D} {p pos : Pos} (cr : Sit Γ k X W → CallR X (.builtin id) r) (n : ∀ d z, g d ≠ .exc z)
    (hr : ∀ (M : Addr → Prop) (H : Hp) (d : D) (v : V) (Q : VK), (∀ a, M a → H a ≠ none) → Rp Γ M H d v → Post Γ (fun _ _ _ _ => False) [] H (g d) (WantE Γ M H Q) → r [v] H Q)
    (he : DE Γ k X W e f) (hm : Γ.mg x = none) (hv : bootBuiltins x = some (.builtin id)) (hg : Gl X x := by rfl) (hn : x ≠ "__name__" := by decide) (hdb : (x == ("__debug__" : Str)) = false := by decide)
    (hst : starEach [e] X.env = (false, eval e X.env) :: starEach [] X.env := by rfl) (hpl : (backTo pos (starEach [] X.env)).any (·.1) = false := by rfl) : DE Γ k X W (.Call (.Name x p) [e] [] pos) (E.op1 g f) := fun S => by
  obtain ⟨te, pe, re⟩ := he S
  refine ⟨_, pe_callB (cr S) hg (by rw [S.mg]; exact hm) hv (pa_cons pe pa_nil hst) hn hdb hst hpl, fun M0 H0 σ H ρ Q G h => ?_⟩
  refine re M0 H0 σ H ρ _ G ((Post.bind h).imp (Same.refl H) fun d w v H1 e1 r1 => ?_)
  exact hr (Mx M0 σ ρ) H1 d v Q (fun a z => Mx.alive (G.mono e1) z) r1 (no_exc (w.imp e1 fun d z => z.back e1) (n d))
theorem de_callT1 {e : Expr} {f : Env → Res D} {x : Str} {id : String} {r : List V → Hp → VK → Prop} {g : D → Res D} {p pos : Pos} (cr : Sit Γ k X W → CallR X (.type id) r) (n : ∀ d z, g d ≠ .exc z)
    (hr : ∀ (M : Addr → Prop) (H : Hp) (d : D) (v : V) (Q : VK), (∀ a, M a → H a ≠ none) → Rp Γ M H d v → Post Γ (fun _ _ _ _ => False) [] H (g d) (WantE Γ M H Q) → r [v] H Q)
    (he : DE Γ k X W e f) (hm : Γ.mg x = none) (hv : bootBuiltins x = some (.type id)) (hg : Gl X x := by rfl) (hn : x ≠ "__name__" := by decide) (hdb : (x == ("__debug__" : Str)) = false := by decide)
    (hst : starEach [e] X.env = (false, eval e X.env) :: starEach [] X.env := by rfl) (hpl : (backTo pos (starEach [] X.env)).any (·.1) = false := by rfl) : DE Γ k X W (.Call (.Name x p) [e] [] pos) (E.op1 g f) := fun S => by
  obtain ⟨te, pe, re⟩ := he S
  refine ⟨_, pe_callTy (cr S) hg (by rw [S.mg]; exact hm) hv (pa_cons pe pa_nil hst) hn hdb hst hpl, fun M0 H0 σ H ρ Q G h => ?_⟩
  refine re M0 H0 σ H ρ _ G ((Post.bind h).imp (Same.refl H) fun d w v H1 e1 r1 => ?_)
  exact hr (Mx M0 σ ρ) H1 d v Q (fun a z => Mx.alive (G.mono e1) z) r1 (no_exc (w.imp e1 fun d z => z.back e1) (n d))
def absI : D → Res D
  | .int i => .ok (.int (if i < 0 then -i else i))
  | _ => .stuck
theorem de_abs {e : Expr} {f : Env → Res D} {p pos : Pos} (he : DE Γ k X W e f) (hm : Γ.mg "abs" = none) (hg : Gl X "abs" := by rfl) (hst : starEach [e] X.env = (false, eval e X.env) :: starEach [] X.env := by rfl) (hpl : (backTo pos (starEach [] X.env)).any (·.1) = false := by rfl) :
    DE Γ k X W (.Call (.Name "abs" p) [e] [] pos) (E.op1 absI f) :=
  de_call1 (fun _ => call_abs) (fun d z => by cases d <;> exact fun q => nomatch q) (fun M H d v Q hM r w => by
    cases d with
    | int i => rw [Rp] at r; subst r; exact ⟨i, rfl, (show WantE Γ M H Q _ from w) _ H (Same.refl H) (by rw [Rp])⟩
    | _ => exact (show False from w).elim) he hm (by decide +kernel) hg (hst := hst) (hpl := hpl)
def intC : D → Res D
  | .int i => .ok (.int i)
  | .bl b => .ok (.int (if b then 1 else 0))
  | _ => .stuck
theorem de_intC {e : Expr} {f : Env → Res D} {p pos : Pos} (he : DE Γ k X W e f) (hm : Γ.mg "int" = none) (hg : Gl X "int" := by rfl) (hst : starEach [e] X.env = (false, eval e X.env) :: starEach [] X.env := by rfl) (hpl : (backTo pos (starEach [] X.env)).any (·.1) = false := by rfl) :
    DE Γ k X W (.Call (.Name "int" p) [e] [] pos) (E.op1 intC f) :=
  de_callT1 (fun _ => call_int1) (fun d z => by cases d <;> exact fun q => nomatch q) (fun M H d v Q hM r w => by
    cases d with
    | int i => rw [Rp] at r; subst r; exact .inl ⟨i, rfl, (show WantE Γ M H Q _ from w) _ H (Same.refl H) (by rw [Rp])⟩
    | bl i => rw [Rp] at r; subst r; exact .inr ⟨i, rfl, (show WantE Γ M H Q _ from w) _ H (Same.refl H) (by rw [Rp])⟩
    | _ => exact (show False from w).elim) he hm (by decide +kernel) hg (hst := hst) (hpl := hpl)
def negI : D → Res D
  | .int i => .ok (.int (-i))
  | _ => .stuck
theorem de_neg {e : Expr} {f : Env → Res D} {pos : Pos} (he : DE Γ k X W e f) : DE Γ k X W (.UnaryOp .USub e pos) (E.op1 negI f) := fun S => by
  obtain ⟨te, pe, re⟩ := he S
  refine ⟨_, pe_un un_neg pe, fun M0 H0 σ H ρ Q G h => re M0 H0 σ H ρ _ G ((Post.bind h).imp (Same.refl H) fun d w v H1 e1 r => ?_)⟩
  cases d with
  | int i => rw [Rp] at r; exact ⟨i, r, (show WantE Γ _ H Q _ from w) _ H1 e1 (by rw [Rp])⟩
  | _ => exact (show False from w).elim
def gcdI : D → D → Res D := intD fun i j => .ok (.int ((Nat.gcd i.natAbs j.natAbs : Nat) : Int))
/-- gcd(a, b): the module's name for math.gcd -/
theorem de_gcd {a b : Expr} {f g : Env → Res D} {p pos : Pos} (ha : DE Γ k X W a f) (hb : DE Γ k X W b g) (hm : Γ.mg "gcd" = some (.builtin "math.gcd")) (hg : Gl X "gcd" := by rfl)
    (hst : starEach [a, b] X.env = (false, eval a X.env) :: starEach [b] X.env := by rfl) (hst2 : starEach [b] X.env = (false, eval b X.env) :: starEach [] X.env := by rfl) (hpl : (backTo pos (starEach [b] X.env)).any (·.1) = false := by rfl) :
    DE Γ k X W (.Call (.Name "gcd" p) [a, b] [] pos) (E.op2 gcdI f g) := fun S => by
  obtain ⟨ta, pa, ra⟩ := ha S
  obtain ⟨tb, pb, rb⟩ := hb S
  refine ⟨_, pe_callBfun cr_gcd hg (by rw [S.mg]; exact hm) (pa_cons pa (pa_cons pb pa_nil hst2) hst) (he := hst) (hpl := hpl), fun M0 H0 σ H ρ Q G h => ?_⟩
  refine ra M0 H0 σ H ρ _ G ((Post.bind h).imp (Same.refl H) fun d w v H1 e1 r => ?_)
  refine rb M0 H0 σ H1 ρ _ (G.mono e1) ((Post.bind w).imp e1 fun d2 w2 u H2 e2 r2 => ?_)
  cases d <;> cases d2 <;> first | exact (show False from w2).elim | skip
  rw [Rp] at r
  rw [Rp] at r2
  subst r
  subst r2
  exact ⟨_, _, rfl, (show WantE Γ _ H Q _ from w2) _ H2 (e1.trans e2) (by rw [Rp])⟩
/-! ### a chain of two comparisons -/
def E.chain (g g' : D → D → Res D) (f h l : Env → Res D) : Env → Res D := fun ρ => (f ρ).bind fun x => (h ρ).bind fun y => (g x y).bind fun z => match z with
  | .bl true => (l ρ).bind fun w => g' y w
  | .bl false => .ok (.bl false)
  | _ => .stuck
end
set_option Elab.async false
set_option linter.all false
set_option maxRecDepth 100000
set_option maxHeartbeats 4000000
open PySem L2
section
variable {Γ : Gam} {k j : Nat} {X : Cx} {W : WX} {l : Bool}
/-! ### what a for walks -/
theorem WantQ.walk {M : Addr → Prop} {H H1 : Hp} {R : It → Hp → Prop} {ds : List D} {J : It} {vs : List V} {G : Hp → Prop} (w : WantI Γ M H R ds) (e : Same H H1) (r : RpL Γ M H1 ds vs) (wk : Walk J vs.length G (YAt vs)) (hG : ∀ M' H', Imp M M' H1 H' → G H') : R J H1 := by
  rw [r.length] at wk
  refine w J H1 G _ e wk fun M' H' im _ => ⟨hG M' H' im, fun i x H2 hi y => ?_⟩
  obtain ⟨e2, y⟩ := y
  subst e2
  obtain ⟨v, hv, rv⟩ := (RpL.imp im ds vs r).get (List.getElem?_eq_getElem hi)
  rw [y] at hv
  cases hv
  exact ⟨Same.refl _, _, List.getElem?_eq_getElem hi, rv⟩
theorem di_lst {tg e : Expr} {f : Env → Res D} (he : DE Γ k X W e f) : DI Γ k X W tg e (Z.lst f) := fun S => by
  obtain ⟨te, pe, re⟩ := he S
  refine ⟨_, pi_list pe, fun M0 H0 σ H ρ R G h => re M0 H0 σ H ρ _ G ((Post.bind h).imp (Same.refl H) fun d w v H1 e1 r => ?_)⟩
  cases d with
  | lst ds =>
    rw [Rp] at r
    obtain ⟨a, vs, rfl, t, r⟩ := r
    refine ⟨a, rfl, ⟨vs, by rw [S.K]; exact t.sq⟩, ?_⟩
    exact WantQ.walk (show WantI Γ _ H R ds from w) e1 r walk_list fun M' H' im => by rw [S.K]; exact (t.imp im).sq
  | _ => exact (show False from w).elim
theorem di_tup {tg e : Expr} {f : Env → Res D} (he : DE Γ k X W e f) : DI Γ k X W tg e (Z.tup f) := fun S => by
  obtain ⟨te, pe, re⟩ := he S
  refine ⟨_, pi_tup pe, fun M0 H0 σ H ρ R G h => re M0 H0 σ H ρ _ G ((Post.bind h).imp (Same.refl H) fun d w v H1 e1 r => ?_)⟩
  cases d with
  | tup ds =>
    rw [Rp] at r
    obtain ⟨a, vs, rfl, t, r⟩ := r
    refine ⟨a, rfl, ⟨vs, by rw [S.K]; exact t.sq⟩, ?_⟩
    exact WantQ.walk (show WantI Γ _ H R ds from w) e1 r walk_tup fun M' H' im => by rw [S.K]; exact (t.imp im).sq
  | _ => exact (show False from w).elim
/-- a new list is walked -/
theorem di_df {tg e : Expr} {f : Env → Res (List D)} (he : DF Γ k X W e f) : DI Γ k X W tg e f := fun S => by
  obtain ⟨te, pe, re⟩ := he S
  refine ⟨_, pi_list pe, fun M0 H0 σ H ρ R G h => re M0 H0 σ H ρ _ G (h.imp (Same.refl H) fun ds w p vs H1 h0 e1 h1 r => ?_)⟩
  refine ⟨p, rfl, ⟨vs, SqL.of h1⟩, ?_⟩
  have np : ¬ Mx M0 σ ρ p := fun z => Mx.alive G z h0
  exact WantQ.walk w e1 (RpL.imp (.weak fun a z => .inl z) _ _ r) walk_list fun M' H' im => SqL.of (im p _ h1 np).2
def rngD (lo : Int) (n : Nat) : List D := (List.range n).map fun (i : Nat) => D.int (lo + (i : Int))
namespace E
def rng1 (f : Env → Res D) : Env → Res (List D) := fun ρ => (f ρ).bind fun d => match d with
  | .int j => if -(2 ^ 62) ≤ j ∧ j < 2 ^ 62 then .ok (rngD 0 j.toNat) else .stuck
  | _ => .stuck
def rng2 (f g : Env → Res D) : Env → Res (List D) := fun ρ => (f ρ).bind fun x => (g ρ).bind fun y => match x, y with
  | .int i, .int j => if -(2 ^ 62) ≤ i ∧ i < 2 ^ 62 ∧ -(2 ^ 62) ≤ j ∧ j < 2 ^ 62 then .ok (rngD i (j - i).toNat) else .stuck
  | _, _ => .stuck
end E
theorem rng_walk {M : Addr → Prop} {H H1 : Hp} {R : It → Hp → Prop} {lo : Int} {n : Nat} (w : WantI Γ M H R (rngD lo n)) (e : Same H H1) : R (Itr lo n) H1 := by
  have hl : (rngD lo n).length = n := by unfold rngD; rw [List.length_map, List.length_range]
  refine w (Itr lo n) H1 _ _ e (by rw [hl]; exact walk_range) fun M' H' im _ => ⟨trivial, fun i x H2 hi y => ?_⟩
  obtain ⟨e2, y⟩ := y
  subst e2
  rw [hl] at hi
  refine ⟨Same.refl _, .int (lo + i), ?_, by rw [Rp]; exact y⟩
  unfold rngD
  rw [List.getElem?_map, List.getElem?_range hi]
  rfl
theorem di_rng1 {tg e : Expr} {f : Env → Res D} {p pos : Pos} (he : DE Γ k X W e f) (hm : Γ.mg "range" = none) (hg : Gl X "range" := by rfl) (hst : starEach [e] X.env = [(false, eval e X.env)] := by rfl) : DI Γ k X W tg (.Call (.Name "range" p) [e] [] pos) (E.rng1 f) := fun S => by
  obtain ⟨te, pe, re⟩ := he S
  have hn : starEach [] X.env = [] := by rfl
  refine ⟨_, pi_range1 hg (by rw [S.mg]; exact hm) (pa_cons pe pa_nil (by rw [hst, hn])) hst, fun M0 H0 σ H ρ R G h => re M0 H0 σ H ρ _ G ((Post.bind h).imp (Same.refl H) fun d w v H1 e1 r => ?_)⟩
  cases d with
  | int i =>
    rw [Rp] at r
    subst r
    dsimp only at w
    split at w
    · rename_i c
      exact ⟨i, rfl, c.1, c.2, rng_walk w e1⟩
    · exact (show False from w).elim
  | _ => exact (show False from w).elim
theorem di_rng2 {tg a b : Expr} {f g : Env → Res D} {p pos : Pos} (ha : DE Γ k X W a f) (hb : DE Γ k X W b g) (hm : Γ.mg "range" = none) (hg : Gl X "range" := by rfl) (hst : starEach [a, b] X.env = [(false, eval a X.env), (false, eval b X.env)] := by rfl)
    (hst2 : starEach [b] X.env = [(false, eval b X.env)] := by rfl) : DI Γ k X W tg (.Call (.Name "range" p) [a, b] [] pos) (E.rng2 f g) := fun S => by
  obtain ⟨ta, pa, ra⟩ := ha S
  obtain ⟨tb, pb, rb⟩ := hb S
  have hn : starEach [] X.env = [] := by rfl
  refine ⟨_, pi_range2 hg (by rw [S.mg]; exact hm) (pa_cons pa (pa_cons pb pa_nil (by rw [hst2, hn])) (by rw [hst, hst2])) hst hst2, fun M0 H0 σ H ρ R G h => ra M0 H0 σ H ρ _ G ((Post.bind h).imp (Same.refl H) fun d w v H1 e1 r => ?_)⟩
  refine rb M0 H0 σ H1 ρ _ (G.mono e1) ((Post.bind w).imp e1 fun d2 w2 u H2 e2 r2 => ?_)
  cases d <;> cases d2 <;> first | exact (show False from w2).elim | skip
  rw [Rp] at r
  rw [Rp] at r2
  subst r
  subst r2
  dsimp only at w2
  split at w2
  · rename_i c
    exact ⟨_, _, rfl, ⟨c.1, c.2.1, c.2.2.1, c.2.2.2⟩, rng_walk w2 (e1.trans e2)⟩
  · exact (show False from w2).elim
/-! ### lists that the slots own are changed -/
namespace S
def app (i : Nat) (f : Env → Res D) : Env → Out := fun ρ => match ρ[i]? with
  | some (.own ds) => lift (f ρ) ρ fun d => if ds.length < sizeLine then .next (List.set ρ i (.own (ds ++ [d]))) else .stuck
  | _ => .stuck
def setAt (i : Nat) (fk fv : Env → Res D) : Env → Out := fun ρ => lift (fv ρ) ρ fun v => match ρ[i]? with
  | some (.own ds) => lift (fk ρ) ρ fun n => (match n with
    | .int n => (match ixN ds.length n with
      | some m => .next (List.set ρ i (.own (ds.set m v)))
      | none => .stuck)
    | _ => .stuck)
  | some (.par ds) => lift (fk ρ) ρ fun n => (match n with
    | .int n => (match ixN ds.length n with
      | some m => .next (List.set ρ i (.par (ds.set m v)))
      | none => .stuck)
    | _ => .stuck)
  | _ => .stuck
def pop (i : Nat) : Env → Out := fun ρ => match ρ[i]? with
  | some (.own ds) => if ds = [] then .stuck else .next (List.set ρ i (.own ds.dropLast))
  | _ => .stuck
/-- the owned list is a value from now on -/
def freeze (i : Nat) (f : Env → Out) : Env → Out := fun ρ => match ρ[i]? with
  | some (.own ds) => f (List.set ρ i (.val (.lst ds)))
  | _ => .stuck
end S
theorem own_cell {M0 : Bd} {H0 : Hp} {σ : St} {H : Hp} {ρ : Env} {i : Nat} {ds : List D} (G : Gd Γ M0 H0 σ H ρ) (q : ρ[i]? = some (.own ds)) : ∃ p vs, σ[i]? = some (some (.ref p)) ∧ H p = some (.lst vs) ∧ RpL Γ (Mx M0 σ ρ) H ds vs := G.cel i _ q
theorem ds_app (i : Nat) {x : Str} {e : Expr} {f : Env → Res D} {p1 p2 p3 pos : Pos} (he : DE Γ k X W e f) (hN : X.N[i]? = some x := by rfl) (hv : Vis X.env.scope x := by first | exact Or.inl rfl | exact Or.inr (Or.inl rfl) | exact Or.inr (Or.inr rfl))
    (hd : (x == ("__debug__" : Str)) = false := by decide) (hcd : (x == ("__classdict__" : Str)) = false := by decide)
    (hbase : attributeBase (.Name x p1) "append" X.env (eval (.Name x p1) X.env) = eval (.Name x p1) X.env := by rfl)
    (hfew : ((backTo p3 (starEach [e] X.env)).all (fun x => !x.1) && (backToKw p3 (keywordEach [] X.env)).all (fun x => x.1.isSome) && decide ([e].length + ([] : List Keyword).length + (if ([] : List Keyword).isEmpty then 0 else 1) < 30)) = true := by rfl)
    (hline : (p2.endLine == p3.line) = true := by rfl) (hst : starEach [e] X.env = (false, eval e X.env) :: starEach [] X.env := by rfl) (hpl : (backTo p3 (starEach [] X.env)).any (·.1) = false := by rfl)
    (hs : swapsWith (.Call (.Attribute (.Name x p1) "append" p2) [e] [] p3) none pos.line X.env = pure false := by rfl) :
    DS Γ k X W (.Expr (.Call (.Attribute (.Name x p1) "append" p2) [e] [] p3) pos) (S.app i f) := fun St => by
  obtain ⟨te, pe, re⟩ := he St
  refine ⟨_, ps_expr (pe_bm PySem.F.plainAttrs_list PySem.F.slot_list_append PySem.F.type_list_append mt_append (pe_var hN hv hd hcd) (pa_cons pe pa_nil hst) hbase hfew hline hst hpl) hs, fun M0 H0 σ H ρ Dn G h => ?_⟩
  unfold S.app at h
  cases q : ρ[i]? with
  | none => rw [q] at h; exact h.elim
  | some c =>
    rw [q] at h
    cases c with
    | own ds =>
      dsimp only at h
      obtain ⟨p, vs, a1, a2, a3⟩ := own_cell G q
      refine ⟨.ref p, a1, .inl ⟨rfl, vs, SqL.of a2⟩, re M0 H0 σ H ρ _ G ((lift_post G h).imp (Same.refl H) fun d w v H1 e1 r => ?_)⟩
      split at w
      · rename_i hl
        exact ⟨p, vs, v, rfl, rfl, e1 _ _ a2, by rw [a3.length]; exact hl, w σ _ ((G.mono e1).mut q a1 ((a3.mono e1).append (.cons r .nil)))⟩
      · exact (show False from w).elim
    | no => exact h.elim
    | val d => exact h.elim
    | ins c fs => exact h.elim
    | held y => exact h.elim
    | par ds => exact h.elim
theorem ds_setAt (i : Nat) {x : Str} {ek wp_walk : Expr} {fk fv : Env → Res D} {p1 p2 pos : Pos} (hv' : DE Γ k X W wp_walk fv) (hk' : DE Γ k X W ek fk) (hN : X.N[i]? = some x := by rfl) (hv : Vis X.env.scope x := by first | exact Or.inl rfl | exact Or.inr (Or.inl rfl) | exact Or.inr (Or.inr rfl))
    (hd : (x == ("__debug__" : Str)) = false := by decide) (hcd : (x == ("__classdict__" : Str)) = false := by decide)
    (hs : swapsWithSole [.Subscript (.Name x p1) ek p2] wp_walk pos.line X.env = pure false := by rfl) (hw : swappedStores [.Subscript (.Name x p1) ek p2] wp_walk X.env = pure none := by rfl) (hes : (assignEach [.Subscript (.Name x p1) ek p2] X.env).map (·.2) = [assign (.Subscript (.Name x p1) ek p2) X.env] := by rfl)
    (ha : ∀ v, assign (.Subscript (.Name x p1) ek p2) X.env v = (do
      let r ← holding [v] (eval (.Name x p1) X.env)
      let n ← holding [v, r] (eval ek X.env)
      standAt p2
      holding [v, r, n] (setItem r n v)
      release [v, r, n] []) := by intro _; rfl) : DS Γ k X W (.Assign [.Subscript (.Name x p1) ek p2] wp_walk pos) (S.setAt i fk fv) := fun S => by
  obtain ⟨tk, pk, rk⟩ := hk' S
  obtain ⟨tv, pv', rv⟩ := hv' S
  refine ⟨_, ps_asg pv' (pg_sub (pe_var hN hv hd hcd) pk set_list ha) hs hw hes, fun M0 H0 σ H ρ Dn G h => ?_⟩
  refine rv M0 H0 σ H ρ _ G ((lift_post G h).imp (Same.refl H) fun d w v H1 e1 r => ?_)
  have G1 := G.mono e1
  cases q : ρ[i]? with
  | none => rw [q] at w; exact w.elim
  | some c =>
    rw [q] at w
    cases c with
    | own ds =>
      dsimp only at w
      obtain ⟨p, vs, a1, a2, a3⟩ := own_cell G1 q
      refine ⟨.ref p, a1, rk M0 H0 σ H1 ρ _ G1 ((lift_post G1 w).imp (Same.refl H1) fun d2 w2 u H2 e2 r2 => ?_)⟩
      cases d2 with
      | int n =>
        dsimp only at w2
        cases z : ixN ds.length n with
        | none => rw [z] at w2; exact w2.elim
        | some m =>
          rw [z] at w2
          rw [Rp] at r2
          subst r2
          exact ⟨p, vs, n, m, rfl, rfl, e2 _ _ a2, by rw [a3.length]; exact z, w2 σ _ ((G1.mono e2).mut q a1 ((a3.mono e2).set m (r.mono e2)))⟩
      | _ => exact (show False from w2).elim
    | no => exact w.elim
    | val d => exact w.elim
    | ins c fs => exact w.elim
    | held y => exact w.elim
    | par ds =>
      dsimp only at w
      obtain ⟨vs, a1, a2, a3⟩ := G1.cel i _ q
      refine ⟨.ref M0.x, a1, rk M0 H0 σ H1 ρ _ G1 ((lift_post G1 w).imp (Same.refl H1) fun d2 w2 u H2 e2 r2 => ?_)⟩
      cases d2 with
      | int n =>
        dsimp only at w2
        cases z : ixN ds.length n with
        | none => rw [z] at w2; exact w2.elim
        | some m =>
          rw [z] at w2
          rw [Rp] at r2
          subst r2
          refine ⟨M0.x, vs, n, m, rfl, rfl, e2 _ _ a2, by rw [a3.length]; exact z, w2 σ _ ((G1.mono e2).mutS q (.inr ⟨ds, rfl, rfl, rfl⟩) a1 (fun b o hb ho => by rw [upd_ne hb]; exact ho) upd_same ?_)⟩
          exact RpL.imp (fun b o e n => ⟨n, by rw [upd_ne fun z => n (by rw [z]; exact .inr ⟨i, _, q, rfl, a1⟩)]; exact e⟩) _ _ ((a3.mono e2).set m (r.mono e2))
      | _ => exact (show False from w2).elim
theorem ds_pop (i : Nat) {x : Str} {p1 p2 p3 pos : Pos} (hN : X.N[i]? = some x := by rfl) (hv : Vis X.env.scope x := by first | exact Or.inl rfl | exact Or.inr (Or.inl rfl) | exact Or.inr (Or.inr rfl))
    (hd : (x == ("__debug__" : Str)) = false := by decide) (hcd : (x == ("__classdict__" : Str)) = false := by decide)
    (hbase : attributeBase (.Name x p1) "pop" X.env (eval (.Name x p1) X.env) = eval (.Name x p1) X.env := by rfl) (hline : (p2.endLine == p3.line) = true := by rfl)
    (hs : swapsWith (.Call (.Attribute (.Name x p1) "pop" p2) [] [] p3) none pos.line X.env = pure false := by rfl) :
    DS Γ k X W (.Expr (.Call (.Attribute (.Name x p1) "pop" p2) [] [] p3) pos) (S.pop i) := fun St => by
  refine ⟨_, ps_expr (pe_bm0 PySem.F.plainAttrs_list PySem.F.slot_list_pop PySem.F.type_list_pop mt_pop (pe_var hN hv hd hcd) hbase hline) hs, fun M0 H0 σ H ρ Dn G h => ?_⟩
  unfold S.pop at h
  cases q : ρ[i]? with
  | none => rw [q] at h; exact h.elim
  | some c =>
    rw [q] at h
    cases c with
    | own ds =>
      dsimp only at h
      split at h
      · exact (show False from h).elim
      · rename_i hne
        obtain ⟨p, vs, a1, a2, a3⟩ := own_cell G q
        have hl : 0 < vs.length := by rw [a3.length]; exact List.length_pos_iff.mpr hne
        refine ⟨.ref p, a1, .inl ⟨rfl, vs, SqL.of a2⟩, p, vs, vs[vs.length - 1]'(by omega), rfl, rfl, a2, List.getElem?_eq_getElem _, h σ _ (G.mut q a1 ?_)⟩
        have ed : vs.dropLast = vs.take (ds.length - 1) := by rw [← a3.length, List.dropLast_eq_take]
        rw [ed, List.dropLast_eq_take]
        exact a3.take _
    | no => exact h.elim
    | val d => exact h.elim
    | ins c fs => exact h.elim
    | held y => exact h.elim
    | par ds => exact h.elim
/-- an owned list is a value from now on -/
theorem Gd.freeze {M0 : Bd} {H0 : Hp} {σ : St} {H : Hp} {ρ : Env} {i : Nat} {ds : List D} (G : Gd Γ M0 H0 σ H ρ) (q : ρ[i]? = some (.own ds)) : Gd Γ M0 H0 σ H (List.set ρ i (.val (.lst ds))) := by
  obtain ⟨p, vs, a1, a2, a3⟩ := own_cell G q
  have hi : i < ρ.length := (List.getElem?_eq_some_iff.mp q).1
  have es : σ = σ.set i (some (.ref p)) := by
    apply List.ext_getElem?
    intro n
    by_cases z : i = n
    · subst z
      rw [List.getElem?_set_self (by rw [G.len]; exact hi), a1]
    · rw [List.getElem?_set_ne z]
  have own : ∀ {j a}, OwnAt σ (List.set ρ i (.val (.lst ds))) j a → OwnAt σ ρ j a ∧ j ≠ i := fun {j a} h => by
    rw [es] at h
    have h2 := own_set_val h
    exact h2
  have sub : ∀ a, Mx M0 σ (List.set ρ i (.val (.lst ds))) a → Mx M0 σ ρ a := fun a h => h.elim .inl fun ⟨j, z⟩ => .inr ⟨j, (own z).1⟩
  refine ⟨by rw [List.length_set, G.len], G.ext, G.m0, fun n c e => ?_, fun n a h => G.new n a (own h).1, fun n m a h1 h2 => G.inj n m a (own h1).1 (own h2).1⟩
  by_cases z : i = n
  · subst z
    rw [List.getElem?_set_self hi] at e
    cases e
    refine ⟨.ref p, a1, ?_⟩
    rw [Rp]
    refine ⟨p, vs, rfl, .inl ⟨.inl a2, fun w => ?_⟩, RpL.imp (.weak sub) _ _ a3⟩
    rcases w with w | ⟨j, w⟩
    · have := G.new i p ⟨_, q, rfl, a1⟩
      exact G.m0 p w this
    · exact (own w).2 (G.inj j i p (own w).1 ⟨_, q, rfl, a1⟩)
  · rw [List.getElem?_set_ne z] at e
    exact COk.imp (.weak sub) (fun _ _ _ _ h => h) (fun _ _ h => h) (G.cel n c e)
theorem dss_freeze (i : Nat) {s : List Stmt} {f : Env → Out} (h : DSs Γ k X W s f) : DSs Γ k X W s (S.freeze i f) := fun St => by
  obtain ⟨ts, ps, r⟩ := h St
  refine ⟨ts, ps, fun M0 H0 σ H ρ Dn G h => ?_⟩
  unfold S.freeze at h
  cases q : ρ[i]? with
  | none => rw [q] at h; exact h.elim
  | some c =>
    rw [q] at h
    cases c with
    | own ds => exact r M0 H0 σ H _ Dn (G.freeze q) h
    | no => exact h.elim
    | val d => exact h.elim
    | ins c fs => exact h.elim
    | held y => exact h.elim
    | par ds => exact h.elim
end
set_option Elab.async false
set_option linter.all false
set_option maxRecDepth 100000
set_option maxHeartbeats 4000000
open PySem L2
namespace S
def raise (c : Nat) : Env → Out := fun ρ => .exc ⟨c, []⟩ ρ
/-- try: b, except: g; sub: is an exception of that class caught -/
def tryO (sub : Nat → Option Bool) (b g : Env → Out) : Env → Out := fun ρ => match b ρ with
  | .exc x ρ' => (match sub x.c with
    | some true => (match g ρ' with
      | .exc _ _ => .stuck
      | o => o)
    | some false => .exc x ρ'
    | none => .stuck)
  | o => o
/-- self.f = e in an __init__ -/
def fld (i c : Nat) (n : Nat) (f : Env → Res D) : Env → Out := fun ρ => lift (f ρ) ρ fun d => match ρ[i]? with
  | some (.ins c' fs) => if c' = c ∧ fs.length = n ∧ n < 1000 then .next (List.set ρ i (.ins c (fs ++ [d]))) else .stuck
  | _ => .stuck
end S
section
variable {Γ : Gam} {k j : Nat} {X : Cx} {W : WX} {l : Bool}
/-! ### raise C("..") -/
structure ExcOk (Γ : Gam) (c : Nat) (x : Str) : Prop where
  mg : Γ.mg x = some (.ref (Γ.cls c))
  ex : PySem.W.excIn Γ.K (Γ.cls c) He.veBase "ValueError.__new__" = true
  kp : PySem.W.keepIn Γ.K (.ref (Γ.cls c)) = true
  sb : PySem.W.subIn Γ.K (.ref (Γ.cls c)) (.type "BaseException") = some true
  ty : PySem.W.typeIn Γ.K (.ref (Γ.cls c)) = some (.type "type")
theorem ds_raise {c : Nat} {x m : Str} {i : Nat} {p p2 p3 pos : Pos} (O : ExcOk Γ c x) (hk : 0 < k := by first | decide | omega) (hg : Gl X x := by rfl) (hdb : (x == ("__debug__" : Str)) = false := by decide) :
    DS Γ k X W (.Raise (some (.Call (.Name x p) [.Constant (.str m) i p2] [] p3)) none pos) (S.raise c) := fun S => by
  refine ⟨_, ps_raise (S.calm hk) S.takes (pmk_own PySem.F.excBase_ValueError (by rw [S.K]; exact O.ex) (by rw [S.mg]; exact O.mg) (by rw [S.K]; exact O.kp) (raises_own (by rw [S.K]; exact O.sb) (by rw [S.K]; exact O.ty)) hg hdb), fun M0 H0 σ H ρ Dn G h => ?_⟩
  exact h _ _ σ H G ⟨rfl, rfl⟩
/-! ### one reading for all contexts -/
def canS (Γ : Gam) (f : Env → Out) (W : WX) : TS := fun D σ H => ∃ (M0 : Bd) (H0 : Hp) (ρ : Env), Gd Γ M0 H0 σ H ρ ∧ PostS Γ M0 H0 W D (f ρ)
theorem DSs.can {s : List Stmt} {f : Env → Out} (h : DSs Γ k X W s f) (S : Sit Γ k X W) : PSs X s (canS Γ f W) := by
  obtain ⟨ts, ps, r⟩ := h S
  exact ⟨fun pins s σ H D I ⟨M0, H0, ρ, G, q⟩ => ps.run pins s σ H D I (r M0 H0 σ H ρ D G q)⟩
abbrev W0 : WX := fun _ _ _ _ => False
theorem Sit.tr (S : Sit Γ k X W) (hk : 0 < k) {W' : WX} {pn : List (Addr × Obj)} {xe : Value → Shared → Prop} (tk : Takes (X.tr pn xe) W') (pas : PassesOwn (model X.prog X.w) X.A X.env xe) : Sit Γ k (X.tr pn xe) W' :=
  ⟨S.P, S.w, S.K, S.mg, S.base, S.room, S.calm, tk, pas, S.nd, S.seer, S.ns⟩
theorem Sit.suite (S : Sit Γ k X W) (a : Addr) (pn : List (Addr × Obj)) : Sit Γ 0 (X.suite a pn) W0 :=
  ⟨S.P, S.w, S.K, S.mg, S.base, fun z => absurd z (Nat.lt_irrefl 0), fun z => absurd z (Nat.lt_irrefl 0), takes0, PassesOwn.never, S.nd, fun z => absurd z (Nat.lt_irrefl 0), S.ns⟩
/-- the clause's class, against the classes that are raised -/
structure CatchOk (Γ : Gam) (c : Value) (sub : Nat → Option Bool) : Prop where
  ok : ∀ t b, sub t = some b → PySem.W.exmOne Γ.K (.ref (Γ.cls t)) c = some b
theorem ds_try {x : Str} {c : Value} {sub : Nat → Option Bool} {body suite : List Stmt} {b₀ : Stmt} {b g : Env → Out} {np pos pos' : Pos} (hs : X.stack = X.env :: X.outer) (hf : X.env.frame = some X.env.locals) (O : CatchOk Γ c sub) (hc : Sit Γ k X W → Names X x c)
    (hb : ∀ (W' : WX) (pn : List (Addr × Obj)) (xe : Value → Shared → Prop), DSs Γ k (X.tr pn xe) W' body b) (hsu : ∀ (a : Addr) (pn : List (Addr × Obj)), DSs Γ 0 (X.suite a pn) W0 (b₀ :: suite) g) (hk : 0 < k := by first | decide | omega) :
    DS Γ k X W (.Try body [.ExceptHandler (some (.Name x np)) none (b₀ :: suite) pos'] [] [] pos) (S.tryO sub b g) := fun St => by
  refine ⟨_, ps_try_only (tb := canS Γ b) (ts := fun _ _ _ => canS Γ g W0) hs hf (hc St) St.takes (fun W' pn xe tk pas => (hb W' pn xe).can (St.tr hk tk pas)) (fun a oe cls d pn _ _ => (hsu a ((a, oe) :: pn)).can (St.suite a _)), fun M0 H0 σ H ρ Dn G h => ?_⟩
  refine ⟨M0, H0, ρ, G, ?_⟩
  unfold S.tryO at h
  cases q : b ρ with
  | exc y ρ' =>
    rw [q] at h
    intro cv dd σ' H' G' r
    dsimp only at h
    obtain ⟨r1, r2⟩ := id r
    cases z : sub y.c with
    | none => rw [z] at h; exact h.elim
    | some t =>
      rw [z] at h
      refine ⟨t, by rw [r1, St.K]; exact O.ok _ _ z, fun e a _ => ?_, fun e => ?_⟩
      · subst e
        refine ⟨M0, H0, ρ', G', ?_⟩
        dsimp only at h
        cases z2 : g ρ' with
        | exc _ _ => rw [z2] at h; exact h.elim
        | stuck => rw [z2] at h; exact h
        | next ρ' => rw [z2] at h; exact h
        | ret d => rw [z2] at h; exact h
        | retF d => rw [z2] at h; exact h
        | brk d => rw [z2] at h; exact h
        | cnt d => rw [z2] at h; exact h
        | retP us d => rw [z2] at h; exact h
      · subst e
        exact h cv dd σ' H' G' r
  | stuck => rw [q] at h; exact h
  | next ρ' => rw [q] at h; exact h
  | ret d => rw [q] at h; exact h
  | retF d => rw [q] at h; exact h
  | brk d => rw [q] at h; exact h
  | cnt d => rw [q] at h; exact h
  | retP us d => rw [q] at h; exact h
theorem names_glob {x : Str} {c : Value} (hm : Γ.mg x = some c) (hg : Gl X x := by rfl) (hdb : (x == ("__debug__" : Str)) = false := by decide) : Sit Γ k X W → Names X x c := fun S => ⟨hg, hdb, .inl (by rw [S.mg]; exact hm)⟩
/-! ### a field is stored -/
theorem putF_new : ∀ {us : List (Str × V)} {l : List Str} {m : Str} {v : V}, us.map (·.1) = l.take us.length → l.Nodup → l[us.length]? = some m → putF m v us = us ++ [(m, v)] ∧ (us ++ [(m, v)]).map (·.1) = l.take (us.length + 1)
  | [], l, m, v, _, _, h => by
    refine ⟨rfl, ?_⟩
    cases l with
    | nil => simp at h
    | cons y ys => simp at h; simp [h]
  | (n, u) :: us, l, m, v, e, nd, h => by
    cases l with
    | nil => simp at h
    | cons y ys =>
      simp only [List.map_cons, List.length_cons, List.take_succ_cons, List.cons.injEq] at e
      obtain ⟨rfl, e⟩ := e
      have nd' := List.nodup_cons.mp nd
      have h' : ys[us.length]? = some m := by simpa using h
      obtain ⟨h1, h2⟩ := putF_new (v := v) e nd'.2 h'
      have ne : ¬ n = m := fun q => nd'.1 (by rw [q]; exact List.mem_of_getElem? h')
      constructor
      · show (if n = m then (n, v) :: us else (n, u) :: putF m v us) = _
        rw [if_neg ne, h1]
        rfl
      · simp only [List.cons_append, List.map_cons, List.length_cons, List.take_succ_cons, h2]
theorem Gd.fld {M0 : Bd} {H0 : Hp} {σ : St} {H : Hp} {ρ : Env} {i c : Nat} {fs : List D} {d : D} {v : V} {us : List (Str × V)} {m : Str} (G : Gd Γ M0 H0 σ H ρ) (q : ρ[i]? = some (.ins c fs)) (hs : σ[i]? = some (some (.ref M0.x))) (hn : (us ++ [(m, v)]).map (·.1) = (Γ.fld c).take (us.length + 1))
    (r : RpL Γ (Mx M0 σ ρ) H fs (us.map (·.2))) (rv : Rp Γ (Mx M0 σ ρ) H d v) : Gd Γ M0 H0 σ (upd H M0.x (.ins (Γ.cls c) M0.dx (us ++ [(m, v)]))) (List.set ρ i (.ins c (fs ++ [d]))) := by
  have hi : i < ρ.length := (List.getElem?_eq_some_iff.mp q).1
  have own : OwnAt σ ρ i M0.x := ⟨_, q, rfl, hs⟩
  have same : ∀ n a, OwnAt σ (List.set ρ i (.ins c (fs ++ [d]))) n a → OwnAt σ ρ n a := fun n a ⟨e, h1, h2, h3⟩ => by
    by_cases z : i = n
    · subst z
      exact ⟨_, q, rfl, h3⟩
    · rw [List.getElem?_set_ne z] at h1
      exact ⟨e, h1, h2, h3⟩
  have sub : ∀ a, Mx M0 σ (List.set ρ i (.ins c (fs ++ [d]))) a → Mx M0 σ ρ a := fun a h => h.elim .inl fun ⟨n, z⟩ => .inr ⟨n, same n a z⟩
  have imp : Imp (Mx M0 σ ρ) (Mx M0 σ (List.set ρ i (.ins c (fs ++ [d])))) H (upd H M0.x (.ins (Γ.cls c) M0.dx (us ++ [(m, v)]))) := fun a o e n => ⟨fun z => n (sub a z), by
    rw [upd_ne fun z => n (by rw [z]; exact .inr ⟨i, own⟩)]
    exact e⟩
  refine ⟨by rw [List.length_set, G.len], fun a o e => ?_, G.m0, fun n e h => ?_, fun n a h => G.new n a (same n a h), fun n n2 a h1 h2 => G.inj n n2 a (same n a h1) (same n2 a h2)⟩
  · rw [upd_ne fun z => by rw [z, G.new i _ own] at e; cases e]
    exact G.ext a o e
  · by_cases z : i = n
    · subst z
      rw [List.getElem?_set_self hi] at h
      cases h
      refine ⟨us ++ [(m, v)], hs, upd_same, ?_, ?_⟩
      · rw [List.length_append]
        exact hn
      · rw [List.map_append]
        exact (RpL.imp imp _ _ r).append (.cons (Rp.imp imp d v rv) .nil)
    · rw [List.getElem?_set_ne z] at h
      refine COk.imp imp (fun a e1 e2 o e3 => ?_) (fun a us e3 => ?_) (G.cel n e h)
      · rw [upd_ne fun e4 => z (G.inj i n _ own ⟨e, h, e2, by rw [e1, e4]⟩)]
        exact e3
      · obtain ⟨us0, _, e5, _⟩ := G.cel i _ q
        rw [upd_ne fun e6 => by rw [e6, e5] at e3; cases e3]
        exact e3
theorem ds_fld (i : Nat) {c n : Nat} {x m y : Str} {e : Expr} {f : Env → Res D} {p p2 pos : Pos} (K : ClsOk Γ c y) (L : FldOk Γ c n m) (he : DE Γ k X W e f) (hN : X.N[i]? = some x := by rfl) (hv : Vis X.env.scope x := by first | exact Or.inl rfl | exact Or.inr (Or.inl rfl) | exact Or.inr (Or.inr rfl))
    (hd : (x == ("__debug__" : Str)) = false := by decide) (hcd : (x == ("__classdict__" : Str)) = false := by decide) (hs : swapsWith e (some (.Attribute (.Name x p) m p2)) pos.line X.env = pure false := by rfl) :
    DS Γ k X W (.Assign [.Attribute (.Name x p) m p2] e pos) (S.fld i c n f) := fun St => by
  obtain ⟨te, pe, re⟩ := he St
  refine ⟨_, ps_fld (pe_var hN hv hd hcd) pe hs, fun M0 H0 σ H ρ Dn G h => ?_⟩
  refine re M0 H0 σ H ρ _ G ((lift_post G h).imp (Same.refl H) fun d w v H1 e1 r => ?_)
  have G1 := G.mono e1
  cases q : ρ[i]? with
  | none => rw [q] at w; exact w.elim
  | some cc =>
    rw [q] at w
    cases cc with
    | ins c' fs =>
      dsimp only at w
      split at w
      · rename_i hc
        obtain ⟨rfl, hl, hn⟩ := hc
        obtain ⟨us, a1, a2, a3, a4⟩ := G1.cel i _ q
        have hu : us.length = n := by
          have z := a4.length
          rw [List.length_map] at z
          omega
        obtain ⟨b1, b2⟩ := putF_new (v := v) a3 L.nd (by rw [hu]; exact L.at_)
        refine ⟨.ref M0.x, a1, M0.x, Γ.cls c', M0.dx, us, rfl, a2, by rw [St.K]; exact K.cl, by rw [St.K]; exact L.no, by omega, ?_⟩
        show Dn.nx σ (upd H1 M0.x (.ins (Γ.cls c') M0.dx (putF m v us)))
        rw [b1]
        exact w σ _ (G1.fld q a1 b2 a4 r)
      · exact (show False from w).elim
    | no => exact w.elim
    | val d => exact w.elim
    | own ds => exact w.elim
    | held y => exact w.elim
    | par ds => exact w.elim
/-! ### a < b < c of ints -/
theorem de_chain {op op' : CmpOp} {a b c : Expr} {f h m : Env → Res D} {g g' : D → D → Res D} {pos : Pos} (o : OpD Γ k X W (compareOp op) g) (n : ∀ x y z, g x y ≠ .exc z) (o' : OpD Γ k X W (compareOp op') g') (n' : ∀ x y z, g' x y ≠ .exc z) (ha : DE Γ k X W a f) (hb : DE Γ k X W b h) (hc : DE Γ k X W c m)
    (hm : lastMarks [op, op'] [b, c] = false := by with_unfolding_all rfl) : DE Γ k X W (.Compare a [op, op'] [b, c] pos) (E.chain g g' f h m) := fun S => by
  obtain ⟨ta, pa, ra⟩ := ha S
  obtain ⟨tb, pb, rb⟩ := hb S
  obtain ⟨tc, pc, rc⟩ := hc S
  obtain ⟨r, or, rr⟩ := o S
  obtain ⟨r', or', rr'⟩ := o' S
  refine ⟨_, pe_chain or or' pa pb pc hm, fun M0 H0 σ H ρ Q G q => ?_⟩
  refine ra M0 H0 σ H ρ _ G ((Post.bind q).imp (Same.refl H) fun x w v H1 e1 r1 => ?_)
  have G1 := G.mono e1
  refine rb M0 H0 σ H1 ρ _ G1 ((Post.bind w).imp e1 fun y w2 u H2 e2 r2 => ?_)
  have G2 := G1.mono e2
  refine rr (Mx M0 σ ρ) H2 v u x y _ (fun a z => Mx.alive G2 z) (r1.mono e2) r2 (no_exc ((Post.bind w2).imp (e1.trans e2) fun z w3 v3 H3 e3 r3 => ?_) (n x y))
  cases z with
  | bl t =>
    rw [Rp] at r3
    refine ⟨t, r3, ?_⟩
    have e := (e1.trans e2).trans e3
    cases t with
    | true =>
      rw [if_pos rfl]
      refine rc M0 H0 σ H3 ρ _ (G2.mono e3) ((Post.bind (show Post Γ W σ H ((m ρ).bind fun w => g' y w) _ from w3)).imp e fun z4 w4 v4 H4 e4 r4 => ?_)
      exact rr' (Mx M0 σ ρ) H4 u v4 y z4 Q (fun a z => Mx.alive ((G2.mono e3).mono e4) z) ((r2.mono e3).mono e4) r4 (no_exc (w4.imp (e.trans e4) fun d z => z.back (e.trans e4)) (n' y z4))
    | false =>
      rw [if_neg Bool.false_ne_true]
      exact (show WantE Γ _ H Q (.bl false) from w3) _ H3 e (by rw [Rp])
  | _ => exact (show False from w3).elim
/-! ### properties -/
structure CalP (Γ : Gam) (j : Nat) (c : Nat) (m : Str) (g : List D → Res D) : Prop where
  ex : ∃ p f, PropOf Γ.K (Γ.cls c) m p f ∧ Cal Γ j f g
def E.prop (c : Nat) (g : List D → Res D) (f : Env → Res D) : Env → Res D := fun ρ => (f ρ).bind fun x => match x with
  | .obj c' fs => if c' = c then (match g [.obj c fs] with
    | .ok d => .ok d
    | _ => .stuck) else .stuck
  | _ => .stuck
theorem de_prop {m x : Str} {a : Expr} {pos : Pos} {c : Nat} {f : Env → Res D} {g : List D → Res D} (K : ClsOk Γ c x) (C : CalP Γ j c m g) (ha : DE Γ k X W a f) (hk : 0 < k := by first | decide | omega) (hj : j + 1 ≤ k := by first | decide | omega) (hb : attributeBase a m X.env (eval a X.env) = eval a X.env := by rfl) :
    DE Γ k X W (.Attribute a m pos) (E.prop c g f) := fun S => by
  obtain ⟨ta, pa, ra⟩ := ha S
  obtain ⟨p, fn, pr, cal⟩ := C.ex
  obtain ⟨fd, ps, dvs, ds, dd, n, g', h1, h2, h3, h4, h5, h6⟩ := cal.ex
  have F : FnOk X.prog X.w X.K X.mg X.base (L2.CX X.prog X.w) j fn fd ps (spD Γ n g') := by rw [S.P, S.w, S.K, S.mg, S.base]; exact h3
  refine ⟨_, pe_prop pa (by rw [S.K]; exact K.cl) (by rw [S.K]; exact pr) F (S.room' hk hj) (by rw [S.K]; exact h2) h1 passL hb, fun M0 H0 σ H ρ Q G q => ?_⟩
  refine ra M0 H0 σ H ρ _ G ((Post.bind q).imp (Same.refl H) fun d w v H1 e1 r => ?_)
  cases d with
  | obj c' fs =>
    dsimp only at w
    split at w
    · rename_i e
      subst e
      have r' := r
      obtain ⟨a, dx, us, rfl, b1, _⟩ := obj_at r'
      refine ⟨a, dx, us, rfl, b1, Mx M0 σ ρ, [.obj c' fs] ++ dd, ?_, fun a z => Mx.alive (G.mono e1) z, (RpL.cons r .nil).append (h4 _ H1), ?_⟩
      · apply Decidable.byContradiction
        intro z
        have := h5 _ z
        rw [h6, this] at w
        exact w
      · rw [← h6]
        cases z : g [.obj c' fs] with
        | ok d => rw [z] at w; exact WantE.back e1 w
        | stuck => rw [z] at w; exact w.elim
        | exc x => rw [z] at w; exact w.elim
    · exact w.elim
  | _ => exact (show False from w).elim
end
set_option Elab.async false
set_option linter.all false
set_option maxRecDepth 100000
set_option maxHeartbeats 4000000
open PySem L2
section
variable {prog : Program} {w : World} {A : Around} {E : Value → Shared → Prop} {s : Shared} {K : PySem.W.Frag} {x C L f : Addr} {h0 : Heap} {m : Str → Option Value} {ox : Obj} {od : Option Obj} {b tb : Value}
open PySem.W in
theorem bound_builtin {M : Model} {name : Str} {id : String} {args : List Value} {Q : Option Value → Shared → Prop} (KX : K.In s.heap) (I : InstAt s.heap x ox C od) (hs : findIn K (.ref C) name = some (some (.builtin id))) (hb : ∀ v, bindSpecial (.builtin id) v = pure (.builtin id, [v]))
    (hq : wpAny M A (call (.builtin id) (.ref x :: args)) (fun v => Q (some v)) E s) : wpAny M A (callSpecialIfBound? (.ref x) name args) Q E s := by
  unfold callSpecialIfBound? bindSpecialIfBound?
  refine wpAny_holding (wpAny_bind (wpAny_bind (wpAny_bind (I.type.here ((looks_findIn KX hs).here ?_)))))
  dsimp only
  rw [hb]
  have last : wpAny M A (call (.builtin id) ([Value.ref x] ++ args) >>= fun v => pure (some v)) Q E s := wpAny_bind (wpAny_mono hq (fun v t z => wpAny_pure z) fun _ _ z => z)
  refine wpAny_bind (wpAny_askSetting (wpAny_ite ?_))
  split
  · exact wpAny_bind (wpAny_pure (wpAny_pure last))
  · exact wpAny_tryCatch (wpAny_bind (wpAny_pure (wpAny_pure last)))
open PySem.W in
theorem own_ne {Q : Bool → Shared → Prop} (hu : A.units + 1 < cLine) (F : PyProof.Rows.Fr h0 L s.heap m) (KX : K.In h0) (I : InstAt s.heap x ox C od) (hb : Looks (model prog w) s.heap (typeOf b) tb) (hn : notFirst K C tb = true)
    (hne : findIn K (.ref C) "__ne__" = some (some (.builtin "object.__ne__"))) (heq : findIn K (.ref C) "__eq__" = some (some (.ref f))) (hf : isFn K (.ref f) = true) (hm : mroIn K C (.type "object") = some true)
    (hq : wpAny (model prog w) A.in1 (call (.ref f) [.ref x, b]) (fun v s' => ∃ r, v = .bool r ∧ Q (!r) s') E s) : wpAny (model prog w) A (richCompare .NotEq (.ref x) b) (fun v s' => ∃ r, v = .bool r ∧ Q r s') E s := by
  have X2 := KX.keeps F.keep
  have entry : wpAny (model prog w) A (call (.builtin "object.__ne__") [.ref x, b]) (fun v s' => ∃ r, v = .bool r ∧ Q r s') E s := by
    refine wpAny_call (codeAny_call_builtin PySem.F.cmp_object.ne.plain PySem.F.cmpEntry_ne (@check_slot (model prog w) _ _ s "object.__ne__" "object" "__ne__" (.ref x) [b] [] _ PySem.F.cmpKind_ne PySem.F.cmpSplit_ne (I.type.andThen (looks_mroIn X2 hm)) (PySem.F.cmpArgs_ne _ _) ?_))
    unfold Builtin.«object.__ne__»
    refine wpAny_bind (wpAny_of_eq (a := ((Value.ref x : Value), [b])) (by first | rfl | (simp only [Builtin.slotArgs]; rfl)) ?_)
    dsimp only
    refine wpAny_bind (wpAny_cRoomFor hu (wpAny_bind (ifBound_K X2 I heq hf (wpAny_mono hq (fun v s' z => ?_) fun _ _ z => z))))
    obtain ⟨r, rfl, z⟩ := z
    dsimp only
    exact wpAny_bind (wpAny_truthy_bool (wpAny_pure ⟨_, rfl, z⟩))
  have one : wpAny (model prog w) A (tryCompare (.ref x) "__ne__" b) (fun r s' => ∃ v, r = some (.bool v) ∧ Q v s') E s := by
    unfold tryCompare
    refine wpAny_bind (bound_builtin X2 I hne (fun v => PySem.F.cmp_object.ne.bind v) (wpAny_mono entry (fun v s' z => ?_) fun _ _ z => z))
    obtain ⟨r, rfl, z⟩ := z
    exact wpAny_pure ⟨r, rfl, z⟩
  unfold richCompare
  simp only [oneThing_ref]
  refine wpAny_holding (wpAny_bind (wpAny_cRoomFor (Nat.lt_of_succ_lt hu) ?_))
  refine wpAny_bind (I.type.here (wpAny_bind (hb.here ?_)))
  split
  · rename_i q
    have e : subIn K tb (.ref C) = some false := by
      rcases Bool.or_eq_true_iff.mp hn with e | e
      · rw [beq_iff_eq.mp e] at q
        simp at q
      · exact beq_iff_eq.mp e
    refine wpAny_bind ((looks_subIn X2 e).here ?_)
    simp only [Bool.false_eq_true, if_false]
    refine wpAny_bind (wpAny_mono one (fun r s' z => ?_) fun _ _ z => z)
    obtain ⟨v, rfl, z⟩ := z
    exact wpAny_pure ⟨v, rfl, z⟩
  · refine wpAny_bind (wpAny_pure ?_)
    simp only [Bool.false_eq_true, if_false]
    refine wpAny_bind (wpAny_mono one (fun r s' z => ?_) fun _ _ z => z)
    obtain ⟨v, rfl, z⟩ := z
    exact wpAny_pure ⟨v, rfl, z⟩
end
section
variable {Γ : Gam} {k j : Nat} {X : Cx} {W : WX}
/-- a callee run somewhere below the body -/
theorem Cal.runA {f : Addr} {g : List D → Res D} (C : Cal Γ j f g) (S : Sit Γ k X W) {A : Around} (hfr : A.frames = X.A.frames) (rm : Room j A) {pins : List (Addr × Obj)} {σ : St} {H : Hp} {s : Shared} {Q : VK} {us : List Value} {vs : List V} {M : Addr → Prop} {as : List D}
    (I : Inv X pins σ H s) (rv : Vals vs us) (hM : ∀ a, M a → H a ≠ none) (r : RpL Γ M H as vs) (h : Post Γ W σ H (g as) (WantE Γ M H Q)) : wpAny (model X.prog X.w) A (call (.ref f) us) (EP X pins σ Q) X.xe s := by
  obtain ⟨fd, ps, dvs, ds, dd, n, g', h1, h2, h3, h4, h5, h6⟩ := C.ex
  rw [h6] at h
  have F : FnOk X.prog X.w X.K X.mg X.base (L2.CX X.prog X.w) j f fd ps (spD Γ n g') := by rw [S.P, S.w, S.K, S.mg, S.base]; exact h3
  have hb : Binds X.K fd ps ds := by rw [S.K]; exact h2
  have hsp := spD_of (Q := Q) h5 hM (r.append (h4 M H)) h
  have rv2 := rv.append h1
  have hl : (us ++ ds).length = ps.length := by rw [← rv2.length]; exact F.len _ _ _ _ hsp
  have e0 : Env0 X.prog X.w X.K X.mg X.base A X.stack s H := by
    have e := I.env0
    exact ⟨hfr.trans e.frames, e.mod, e.bs, e.bsz, e.funs, e.frf, e.hok, e.bare⟩
  refine wpAny_call (codeAny_mono (F.run A X.stack s H ⟨us, []⟩ (us ++ ds) (vs ++ dvs) Q (WE W σ) rm e0 (hb s us I.kIn hl) rv2 hsp) fun r s' hq => ?_)
  cases r with
  | error e => exact passAt S.takes σ pins _ _ e s' I hq
  | ok fl =>
    cases fl with
    | ret u => exact I.after hq
    | next => exact False.elim hq
    | brk => exact False.elim hq
    | cont => exact False.elim hq
/-- the class c has its own == ; tst: the data it is compared with -/
structure EqOk (Γ : Gam) (j : Nat) (c : Nat) (g : List D → Res D) (ok : D → Bool) : Prop where
  ex : ∃ f, Meth Γ.K (Γ.cls c) "__eq__" f ∧ Cal Γ j f g
  ne : PySem.W.findIn Γ.K (.ref (Γ.cls c)) "__ne__" = some (some (.builtin "object.__ne__"))
  nf : ∀ d, ok d = true → PySem.W.notFirst Γ.K (Γ.cls c) (tyv Γ d) = true
def eqOwn (c : Nat) (g : List D → Res D) (ok : D → Bool) (neg : Bool) (x y : D) : Res D := match x with
  | .obj c' _ => if c' = c ∧ ok y = true then (g [x, y]).bind fun r => match r with
      | .bl b => .ok (.bl (if neg then !b else b))
      | _ => .stuck
    else .stuck
  | _ => .stuck
theorem eqOwn_obj {c : Nat} {g : List D → Res D} {ok : D → Bool} {neg : Bool} {x y : D} {σ : St} {H : Hp} {Q : D → Prop} (h : Post Γ W σ H (eqOwn c g ok neg x y) Q) : ∃ fs, x = .obj c fs ∧ ok y = true ∧
    Post Γ W σ H (g [x, y]) fun r => ∃ b, r = .bl b ∧ Q (.bl (if neg then !b else b)) := by
  unfold eqOwn at h
  cases x with
  | obj c' fs =>
    dsimp only at h
    split at h
    · rename_i e
      refine ⟨fs, by rw [e.1], e.2, (Post.bind h).imp (Same.refl H) fun r z => ?_⟩
      cases r with
      | bl b => exact ⟨b, rfl, z⟩
      | _ => exact (show False from z).elim
    · exact h.elim
  | _ => exact h.elim
theorem eqOwn_run {op : CmpOp} {neg : Bool} {a b : Expr} {pos : Pos} {c : Nat} {x : Str} {f h : Env → Res D} {g : List D → Res D} {ok : D → Bool} (K : ClsOk Γ c x) (O : EqOk Γ j c g ok) (ho : (op = .Eq ∧ neg = false) ∨ (op = .NotEq ∧ neg = true)) (S : Sit Γ k X W) (hk : 0 < k) (hj : j + 1 ≤ k)
    {pins : List (Addr × Obj)} {s : Shared} {σ : St} {H : Hp} {v v2 : V} {u u2 : Value} {Q : VK} {M : Addr → Prop} {d d2 : D} (I : Inv X pins σ H s) (ru : RelV v u) (ru2 : RelV v2 u2) (hM : ∀ a, M a → H a ≠ none) (r : Rp Γ M H d v) (r2 : Rp Γ M H d2 v2)
    (q : Post Γ W σ H (eqOwn c g ok neg d d2) (WantE Γ M H Q)) : wpAny (model X.prog X.w) X.A (compareOp op u u2) (EP X pins σ Q) X.xe s := by
  obtain ⟨fs, rfl, ho2, q⟩ := eqOwn_obj q
  obtain ⟨p, dx, us, rfl, h1, _⟩ := obj_at r
  cases ru
  obtain ⟨fn, mt, cal⟩ := O.ex
  obtain ⟨m2, F2⟩ := I.fr
  obtain ⟨_, _, J⟩ := ins_at I h1
  have rm := S.room' hk hj
  have ty := tyLooks (Md := model X.prog X.w) S.K I ru2 r2
  have nf : PySem.W.notFirst X.K (Γ.cls c) (tyv Γ d2) = true := by rw [S.K]; exact O.nf _ ho2
  rcases ho with ⟨rfl, rfl⟩ | ⟨rfl, rfl⟩
  · show wpAny _ _ (richCompare .Eq _ _) _ _ _
    refine PySem.W.cmp_K (op := .Eq) rm.units0 F2 I.ok.mod.kin J ty nf (by rw [S.K]; exact mt.at_) (by rw [S.K]; exact mt.fn) ?_
    refine thn (cal.run (us := [Value.ref p, u2]) (vs := [V.ref p, v2]) (Q := Q) S hk (by omega) I (.cons rfl (.cons ru2 .nil)) hM (.cons r (.cons r2 .nil)) (q.imp (Same.refl H) fun z w => ?_)) fun _ _ z => cmpBack z
    obtain ⟨b, rfl, w⟩ := w
    exact w
  · show wpAny _ _ (richCompare .NotEq _ _) _ _ _
    have un : X.A.units + 1 < cLine := by
      have := rm.units
      omega
    refine wpAny_mono (own_ne (Q := fun t s' => EP X pins σ Q (.bool t) s') un F2 I.ok.mod.kin J ty nf (by rw [S.K]; exact O.ne) (by rw [S.K]; exact mt.at_) (by rw [S.K]; exact mt.fn) (by rw [S.K]; exact K.mo) ?_) (fun z s' w => ?_) fun _ _ z => z
    · refine thn (cal.runA (A := X.A.in1) (us := [Value.ref p, u2]) (vs := [V.ref p, v2]) (Q := fun v H' => ∃ t, v = .bl t ∧ Q (.bl (!t)) H') S rfl rm.in1 I (.cons rfl (.cons ru2 .nil)) hM (.cons r (.cons r2 .nil)) (q.imp (Same.refl H) fun z w => ?_)) fun z s' w => ?_
      · obtain ⟨b, rfl, w⟩ := w
        intro v' H' e rr
        rw [Rp] at rr
        exact ⟨b, rr, w _ H' e (by rw [Rp] <;> rfl)⟩
      · obtain ⟨v', H', I', rv, t, rfl, w⟩ := w
        cases rv
        exact ⟨t, rfl, .bl (!t), H', I', rfl, w⟩
    · obtain ⟨t, rfl, w⟩ := w
      exact w
def ROwn (Γ : Gam) (W : WX) (c : Nat) (g : List D → Res D) (ok : D → Bool) (neg : Bool) (σ : St) (Q : VK) : V → V → Hp → Prop := fun x y H2 => ∃ (M : Addr → Prop) (d d2 : D), (∀ a, M a → H2 a ≠ none) ∧ Rp Γ M H2 d x ∧ Rp Γ M H2 d2 y ∧ Post Γ W σ H2 (eqOwn c g ok neg d d2) (WantE Γ M H2 Q)
theorem pc_own {op : CmpOp} {neg : Bool} {a b : Expr} {c : Nat} {x : Str} {g : List D → Res D} {ok : D → Bool} {ta tb : TE} (K : ClsOk Γ c x) (O : EqOk Γ j c g ok) (ho : (op = .Eq ∧ neg = false) ∨ (op = .NotEq ∧ neg = true)) (pa : PE X a ta) (pb : PE X b tb) (S : Sit Γ k X W)
    (hk : 0 < k) (hj : j + 1 ≤ k) : PC X op a b (fun σ H Q => ta σ H fun x H1 => tb σ H1 fun y H2 => ROwn Γ W c g ok neg σ Q x y H2) :=
  ⟨fun pins s σ H Q I z => binT pa pb I (R := fun x y H2 => ROwn Γ W c g ok neg σ Q x y H2) z fun v u s2 x y H2 I2 rx ry w => by
    obtain ⟨M, d, d2, hM, r, r2, w⟩ := w
    exact eqOwn_run (a := a) (b := b) (pos := default) (f := (fun _ => .stuck)) (h := (fun _ => .stuck)) K O ho S hk hj I2 rx ry hM r r2 w⟩
theorem own_read {neg : Bool} {c : Nat} {g : List D → Res D} {ok : D → Bool} {f h : Env → Res D} {ta tb : TE} (ra : ∀ M0 H0 σ H ρ Q, Gd Γ M0 H0 σ H ρ → Post Γ W σ H (f ρ) (WantE Γ (Mx M0 σ ρ) H Q) → ta σ H Q)
    (rb : ∀ M0 H0 σ H ρ Q, Gd Γ M0 H0 σ H ρ → Post Γ W σ H (h ρ) (WantE Γ (Mx M0 σ ρ) H Q) → tb σ H Q) {M0 : Bd} {H0 : Hp} {σ : St} {H : Hp} {ρ : Env} {Q : VK} (G : Gd Γ M0 H0 σ H ρ) (q : Post Γ W σ H (E.op2 (eqOwn c g ok neg) f h ρ) (WantE Γ (Mx M0 σ ρ) H Q)) :
    ta σ H fun x H1 => tb σ H1 fun y H2 => ROwn Γ W c g ok neg σ Q x y H2 := by
  refine ra M0 H0 σ H ρ _ G ((Post.bind q).imp (Same.refl H) fun d q1 v H1 e1 r1 => ?_)
  have G1 := G.mono e1
  refine rb M0 H0 σ H1 ρ _ G1 ((Post.bind q1).imp e1 fun d2 q2 v2 H2 e2 r2 => ?_)
  exact ⟨Mx M0 σ ρ, d, d2, fun a z => Mx.alive (G1.mono e2) z, r1.mono e2, r2, q2.imp (e1.trans e2) fun a z => z.back (e1.trans e2)⟩
theorem de_ownEq {op : CmpOp} {neg : Bool} {a b : Expr} {pos : Pos} {c : Nat} {x : Str} {f h : Env → Res D} {g : List D → Res D} {ok : D → Bool} (K : ClsOk Γ c x) (O : EqOk Γ j c g ok) (ho : (op = .Eq ∧ neg = false) ∨ (op = .NotEq ∧ neg = true)) (ha : DE Γ k X W a f) (hb : DE Γ k X W b h) (hm : behindInMarks op b = false)
    (hk : 0 < k := by first | decide | omega) (hj : j + 1 ≤ k := by first | decide | omega) : DE Γ k X W (.Compare a [op] [b] pos) (E.op2 (eqOwn c g ok neg) f h) := fun S => by
  obtain ⟨ta, pa, ra⟩ := ha S
  obtain ⟨tb, pb, rb⟩ := hb S
  exact ⟨_, pe_cmp (pc_own K O ho pa pb S hk hj) hm, fun M0 H0 σ H ρ Q G q => own_read ra rb G q⟩
theorem dt_ownEq {op : CmpOp} {neg : Bool} {a b : Expr} {pos : Pos} {c : Nat} {x : Str} {f h : Env → Res D} {g : List D → Res D} {ok : D → Bool} (K : ClsOk Γ c x) (O : EqOk Γ j c g ok) (ho : (op = .Eq ∧ neg = false) ∨ (op = .NotEq ∧ neg = true)) (ha : DE Γ k X W a f) (hb : DE Γ k X W b h) (hm : behindInMarks op b = false)
    (hk : 0 < k := by first | decide | omega) (hj : j + 1 ≤ k := by first | decide | omega) : DT Γ k X W (.Compare a [op] [b] pos) (T.tst (E.op2 (eqOwn c g ok neg) f h)) := fun S => by
  obtain ⟨ta, pa, ra⟩ := ha S
  obtain ⟨tb, pb, rb⟩ := hb S
  refine ⟨_, pt_cmp (pc_own K O ho pa pb S hk hj) hm, fun M0 H0 σ H ρ Q G q => ?_⟩
  refine own_read ra rb G ((Post.bind q).imp (Same.refl H) fun d q1 v H1 e1 r1 => ?_)
  cases d with
  | bl t =>
    rw [Rp] at r1
    exact ⟨t, r1, q1 H1 e1⟩
  | _ => exact (show False from q1).elim
theorem dt_isN {a : Expr} {f : Env → Res D} {i : Nat} {p pos : Pos} (ha : DE Γ k X W a f) : DT Γ k X W (.Compare a [.Is] [.Constant .none i p] pos) (T.tst (E.op1 isN f)) := fun S => by
  obtain ⟨ta, pa, ra⟩ := ha S
  refine ⟨_, pt_cmp (pc_isN pa) rfl, fun M0 H0 σ H ρ Q G h => ?_⟩
  refine ra M0 H0 σ H ρ _ G ((Post.bind (Post.bind h)).imp (Same.refl H) fun d q v H1 e1 r1 => ?_)
  refine ⟨_, rfl, ?_⟩
  rw [non_iff r1]
  cases d <;> exact (show WantB H Q _ from q) H1 e1
theorem dt_notN {a : Expr} {f : Env → Res D} {i : Nat} {p pos : Pos} (ha : DE Γ k X W a f) : DT Γ k X W (.Compare a [.IsNot] [.Constant .none i p] pos) (T.tst (E.op1 notN f)) := fun S => by
  obtain ⟨ta, pa, ra⟩ := ha S
  refine ⟨_, pt_cmp (pc_notN pa) rfl, fun M0 H0 σ H ρ Q G h => ?_⟩
  refine ra M0 H0 σ H ρ _ G ((Post.bind (Post.bind h)).imp (Same.refl H) fun d q v H1 e1 r1 => ?_)
  refine ⟨_, rfl, ?_⟩
  rw [non_iff r1]
  cases d <;> exact (show WantB H Q _ from q) H1 e1
theorem dt_chain {op op' : CmpOp} {a b c : Expr} {f h m : Env → Res D} {g g' : D → D → Res D} {pos : Pos} (o : OpD Γ k X W (compareOp op) g) (n : ∀ x y z, g x y ≠ .exc z) (o' : OpD Γ k X W (compareOp op') g') (n' : ∀ x y z, g' x y ≠ .exc z) (ha : DE Γ k X W a f) (hb : DE Γ k X W b h) (hc : DE Γ k X W c m)
    (hm : lastMarks [op, op'] [b, c] = false := by with_unfolding_all rfl) : DT Γ k X W (.Compare a [op, op'] [b, c] pos) (T.tst (E.chain g g' f h m)) := fun S => by
  obtain ⟨ta, pa, ra⟩ := ha S
  obtain ⟨tb, pb, rb⟩ := hb S
  obtain ⟨tc, pc, rc⟩ := hc S
  obtain ⟨r, or, rr⟩ := o S
  obtain ⟨r', or', rr'⟩ := o' S
  refine ⟨_, pt_chain or or' pa pb pc hm, fun M0 H0 σ H ρ Q G q0 => ?_⟩
  have q := Post.bind q0
  refine ra M0 H0 σ H ρ _ G ((Post.bind q).imp (Same.refl H) fun x w v H1 e1 r1 => ?_)
  have G1 := G.mono e1
  refine rb M0 H0 σ H1 ρ _ G1 ((Post.bind w).imp e1 fun y w2 u H2 e2 r2 => ?_)
  have G2 := G1.mono e2
  refine rr (Mx M0 σ ρ) H2 v u x y _ (fun a z => Mx.alive G2 z) (r1.mono e2) r2 (no_exc ((Post.bind w2).imp (e1.trans e2) fun z w3 v3 H3 e3 r3 => ?_) (n x y))
  cases z with
  | bl t =>
    rw [Rp] at r3
    refine ⟨t, r3, ?_⟩
    have e := (e1.trans e2).trans e3
    cases t with
    | true =>
      rw [if_pos rfl]
      refine rc M0 H0 σ H3 ρ _ (G2.mono e3) ((Post.bind (show Post Γ W σ H ((m ρ).bind fun w => g' y w) _ from w3)).imp e fun z4 w4 v4 H4 e4 r4 => ?_)
      refine rr' (Mx M0 σ ρ) H4 u v4 y z4 _ (fun a z => Mx.alive ((G2.mono e3).mono e4) z) ((r2.mono e3).mono e4) r4 (no_exc (w4.imp (e.trans e4) fun d z v5 H5 e5 r5 => ?_) (n' y z4))
      cases d with
      | bl t2 =>
        rw [Rp] at r5
        exact ⟨t2, r5, (show WantB H Q t2 from z) H5 ((e.trans e4).trans e5)⟩
      | _ => exact (show False from z).elim
    | false =>
      rw [if_neg Bool.false_ne_true]
      exact ⟨false, rfl, (show WantB H Q false from w3) H3 e⟩
  | _ => exact (show False from w3).elim
/-! ### a, b = e, e' (two names) -/
def S.par (i m : Nat) (f : Env → Res (List D)) : Env → Out := fun ρ => S.lift (f ρ) ρ fun ds => match ds with
  | [x, y] => if i < ρ.length ∧ m < ρ.length then .next (List.set (List.set ρ i (.val x)) m (.val y)) else .stuck
  | _ => .stuck
theorem ds_par (i m : Nat) {x y : Str} {a b : Expr} {f : Env → Res (List D)} {px py pt pt2 pos : Pos} {kt k2 : Nat} (nd : X.N.Nodup) (ha : DA Γ k X W [a, b] f) (hk : 0 < k := by first | decide | omega) (hi : X.N[i]? = some x := by rfl) (hj : X.N[m]? = some y := by rfl) (hij : i ≠ m := by decide)
    (hx : X.env.scope.names.lookup x = some .local := by rfl) (hy : X.env.scope.names.lookup y = some .local := by rfl) (hw : swappedStores [.Tuple [.Name x px, .Name y py] kt pt] (.Tuple [a, b] k2 pt2) X.env = pure (some [x, y]) := by rfl)
    (hs : swapsWithSole [.Tuple [.Name x px, .Name y py] kt pt] (.Tuple [a, b] k2 pt2) pos.line X.env = pure false := by rfl) : DS Γ k X W (.Assign [.Tuple [.Name x px, .Name y py] kt pt] (.Tuple [a, b] k2 pt2) pos) (S.par i m f) := fun St => by
  obtain ⟨ta, pa, ra⟩ := ha St
  refine ⟨_, ps_par (St.calm hk) nd hi hj hij hx hy pa hw hs, fun M0 H0 σ H ρ Dn G h => ?_⟩
  refine ra M0 H0 σ H ρ _ G ((lift_post G h).imp (Same.refl H) fun ds w vs H1 e1 r => ?_)
  match ds, w, r with
  | [u, v], w, r =>
    dsimp only at w
    split at w
    · rename_i hl
      rw [RpL] at r
      obtain ⟨v1, t, rfl, r1, r⟩ := r
      rw [RpL] at r
      obtain ⟨v2, t2, rfl, r2, r⟩ := r
      rw [RpL] at r
      subst r
      have G1 := G.set_val hl.1 e1 r1
      refine ⟨v1, v2, rfl, w _ _ (G1.set_val (by rw [List.length_set]; exact hl.2) (Same.refl _) (Rp.imp (.weak fun a z => ?_) _ _ r2))⟩
      rcases z with z | ⟨n, z⟩
      · exact .inl z
      · exact .inr ⟨n, (own_set_val z).1⟩
    · exact (show False from w).elim
  | [], w, r => exact (show False from w).elim
  | [_], w, r => exact (show False from w).elim
  | _ :: _ :: _ :: _, w, r => exact (show False from w).elim
/-! ### a def of the text as something that may be called -/
theorem runD_len {N n : Nat} {b : Env → Out} (ds : List D) (h : ds.length ≠ n) : runD N n b ds = .stuck := by
  unfold runD
  rw [if_neg h]
theorem runF_len {N n : Nat} {b : Env → Out} (ds : List D) (h : ds.length ≠ n) : runF N n b ds = .stuck := by
  unfold runF
  rw [if_neg h]
theorem runI_len {c N n : Nat} {b : Env → Out} (ds : List D) (h : ds.length ≠ n) : runI c N n b ds = .stuck := by
  unfold runI
  rw [if_neg h]
section
variable {n : Nat} {N ps : List Str} {x qual : Str} {params : Arguments} {body : List Stmt} {scope : Scope} {dvs : List V} {kws : List (Str × V)} {f : Addr} {b : Env → Out}
abbrev BindN (x qual : Str) (params : Arguments) (body : List Stmt) (scope : Scope) (ps : List Str) : Prop := ∀ (kV doc pm : Value) (an : Option Addr) (cdv ct : Value) (us : List Value), us.length = ps.length → bindArgs (PySem.W.fnOf x qual params body scope .none kV doc pm an cdv ct) ⟨us, []⟩ = pure (ps.zip us)
theorem cal_mk (F : ∃ fd, FunD Γ.K x qual params body scope [] kws f fd) (Sc : FnScope N ps scope) (T : Top Γ) (hb : Body Γ k N qual scope f body b) (hB : BindN x qual params body scope ps) (hp : ps.length = n := by rfl) (hn : n ≤ N.length := by decide) : Cal Γ (k + 1) f (runD N.length n b) := by
  obtain ⟨fd, F⟩ := F
  exact ⟨fd, ps, [], [], [], n, _, .nil, F.bindsN hB, fx_d F Sc T hp hn hb, fun _ _ => .nil, runD_len, fun as => by rw [List.append_nil]⟩
theorem calF_mk (F : ∃ fd, FunD Γ.K x qual params body scope [] kws f fd) (Sc : FnScope N ps scope) (T : Top Γ) (hb : Body Γ k N qual scope f body b) (hB : BindN x qual params body scope ps) (hp : ps.length = n := by rfl) (hn : n ≤ N.length := by decide) : CalF Γ (k + 1) f (runF N.length n b) := by
  obtain ⟨fd, F⟩ := F
  exact ⟨fd, ps, [], [], [], n, _, .nil, F.bindsN hB, fx_f F Sc T hp hn hb, fun _ _ => .nil, runF_len, fun as => by rw [List.append_nil]⟩
theorem calI_mk {c : Nat} {y : Str} (F : ∃ fd, FunD Γ.K x qual params body scope [] kws f fd) (M : Mk Γ.K (Γ.cls c) f) (Sc : FnScope (y :: N) ps scope) (T : Top Γ) (hb : Body Γ k (y :: N) qual scope f body b) (hB : BindN x qual params body scope ps) (hp : ps.length = n + 1 := by rfl) (hn : n ≤ N.length := by decide) :
    CalI Γ (k + 1) c (runI c (N.length + 1) n b) := by
  obtain ⟨fd, F⟩ := F
  exact ⟨f, fd, ps, [], [], [], n, _, M, .nil, F.bindsN hB, fx_i F Sc T hp hn hb, fun _ _ => .nil, runI_len, fun as => by rw [List.append_nil]⟩
/-- with defaults: m positional values given, the defaults behind the first j of them are taken -/
abbrev BindJ (x qual : Str) (params : Arguments) (body : List Stmt) (scope : Scope) (ps : List Str) (m j : Nat) (dl : Nat) : Prop := ∀ (T : Addr) (kV doc pm : Value) (an : Option Addr) (cdv ct : Value) (us its : List Value), us.length = m → its.length = dl →
  ∃ k, bindArgs (PySem.W.fnOf x qual params body scope (.ref T) kV doc pm an cdv ct) ⟨us, []⟩ = seqItems? (.ref T) >>= k ∧ k (some its.toArray) = pure (ps.zip (us ++ its.drop j))
theorem cal_mkJ {m jd : Nat} {dd : List D} (F : ∃ fd, FunD Γ.K x qual params body scope dvs kws f fd) (Sc : FnScope N ps scope) (T : Top Γ) (hb : Body Γ k N qual scope f body b) (hB : BindJ x qual params body scope ps m jd dvs.length) (hd : dvs ≠ []) (hm : m + (dvs.length - jd) = ps.length)
    (hdd : ∀ M H, RpL Γ M H dd (dvs.drop jd)) (hp : ps.length = n := by rfl) (hn : n ≤ N.length := by decide) : Cal Γ (k + 1) f (fun as => runD N.length n b (as ++ dd)) := by
  obtain ⟨fd, F⟩ := F
  obtain ⟨ds, h1, h2⟩ := F.binds1 m jd hd hm hB
  exact ⟨fd, ps, dvs.drop jd, ds, dd, n, _, h1, h2, fx_d F Sc T hp hn hb, hdd, runD_len, fun as => rfl⟩
theorem calI_mkJ {c m jd : Nat} {y : Str} {dd : List D} (F : ∃ fd, FunD Γ.K x qual params body scope dvs kws f fd) (M : Mk Γ.K (Γ.cls c) f) (Sc : FnScope (y :: N) ps scope) (T : Top Γ) (hb : Body Γ k (y :: N) qual scope f body b) (hB : BindJ x qual params body scope ps m jd dvs.length) (hd : dvs ≠ []) (hm : m + (dvs.length - jd) = ps.length)
    (hdd : ∀ M H, RpL Γ M H dd (dvs.drop jd)) (hp : ps.length = n + 1 := by rfl) (hn : n ≤ N.length := by decide) : CalI Γ (k + 1) c (fun as => runI c (N.length + 1) n b (as ++ dd)) := by
  obtain ⟨fd, F⟩ := F
  obtain ⟨ds, h1, h2⟩ := F.binds1 m jd hd hm hB
  exact ⟨f, fd, ps, dvs.drop jd, ds, dd, n, _, M, h1, h2, fx_i F Sc T hp hn hb, hdd, runI_len, fun as => rfl⟩
end
end
set_option Elab.async false
set_option linter.all false
set_option maxRecDepth 100000
set_option maxHeartbeats 4000000
open PySem L2
section
variable {Γ : Gam} {k j : Nat} {X : Cx} {W : WX}
/-! ### a list or a tuple is walked -/
def Z.seq (f : Env → Res D) : Env → Res (List D) := fun ρ => (f ρ).bind fun d => match d with
  | .lst ds => .ok ds
  | .tup ds => .ok ds
  | _ => .stuck
theorem pi_seq {tg e : Expr} {te : TE} (he : PE X e te) : PI X tg e fun σ H R => te σ H fun x H1 => ∃ a, x = V.ref a ∧ ((∃ J, iList X.K (fun _ H Q => Q (.ref a) H) σ H1 fun J' H2 => J' = J ∧ H2 = H1 ∧ R J H1) ∨ ∃ J, iTup X.K (fun _ H Q => Q (.ref a) H) σ H1 fun J' H2 => J' = J ∧ H2 = H1 ∧ R J H1) := by
  refine ⟨fun pins s σ H R I h => ?_⟩
  refine thn (he.run pins s σ H _ I h) fun v s1 ⟨x, H1, I1, r1, a, e, w⟩ => ?_
  subst e
  cases r1
  have back : ∀ {J : It} {H2 : Hp}, (∃ J0, J = J0 ∧ H2 = H1 ∧ R J0 H1) → R J H2 := fun {J H2} ⟨J0, e1, e2, z⟩ => by rw [e1, e2]; exact z
  rcases w with ⟨J, w⟩ | ⟨J, w⟩
  · obtain ⟨a', e, ⟨xs, hq⟩, e1, e2, q⟩ := w
    cases e
    obtain ⟨its, rv, p, hz⟩ := I1.list hq
    refine wpAny_pyIter_list p.isList ⟨s1.heap.objs.size, [s1.heap.objs.size], _, _, H1, rfl, I1.kept (t' := s1.toks) fun b o e => Heap.get?_push_of_some _ e, turn_list a _, ⟨_, Heap.get?_push_size _ rfl, rfl, rfl⟩, fun b hb => ?_, by rw [e1]; exact q⟩
    rw [List.mem_singleton.mp hb]
    exact I1.fpOk (Nat.le_refl _) (I1.hok.fresh (Nat.le_refl _))
  · obtain ⟨a', e, ⟨xs, hq⟩, e1, e2, q⟩ := w
    cases e
    obtain ⟨its, rv, p, hz⟩ := I1.tuple hq
    refine wpAny_pyIter_tuple (show s1.heap.IsTuple a its.toArray from p) ⟨s1.heap.objs.size, [s1.heap.objs.size], _, _, H1, rfl, I1.kept (t' := s1.toks) fun b o e => Heap.get?_push_of_some _ e, turn_tuple a _, ⟨_, Heap.get?_push_size _ rfl, rfl, rfl⟩, fun b hb => ?_, by rw [e1]; exact q⟩
    rw [List.mem_singleton.mp hb]
    exact I1.fpOk (Nat.le_refl _) (I1.hok.fresh (Nat.le_refl _))
theorem di_seq {tg e : Expr} {f : Env → Res D} (he : DE Γ k X W e f) : DI Γ k X W tg e (Z.seq f) := fun S => by
  obtain ⟨te, pe, re⟩ := he S
  refine ⟨_, pi_seq pe, fun M0 H0 σ H ρ R G h => re M0 H0 σ H ρ _ G ((Post.bind h).imp (Same.refl H) fun d w v H1 e1 r => ?_)⟩
  cases d with
  | lst ds =>
    rw [Rp] at r
    obtain ⟨a, vs, rfl, t, r⟩ := r
    refine ⟨a, rfl, .inl ⟨_, a, rfl, ⟨vs, by rw [S.K]; exact t.sq⟩, rfl, rfl, ?_⟩⟩
    exact WantQ.walk (show WantI Γ _ H R ds from w) e1 r walk_list fun M' H' im => by rw [S.K]; exact (t.imp im).sq
  | tup ds =>
    rw [Rp] at r
    obtain ⟨a, vs, rfl, t, r⟩ := r
    refine ⟨a, rfl, .inr ⟨_, a, rfl, ⟨vs, by rw [S.K]; exact t.sq⟩, rfl, rfl, ?_⟩⟩
    exact WantQ.walk (show WantI Γ _ H R ds from w) e1 r walk_tup fun M' H' im => by rw [S.K]; exact (t.imp im).sq
  | _ => exact (show False from w).elim
/-- a body that is never run -/
theorem body_stuck {N : List Str} {qual : Str} {scope : Scope} {f : Addr} {body : List Stmt} : Body Γ k N qual scope f body fun _ => .stuck := fun cdv A outer s H E _ =>
  ⟨fun _ _ _ => False, ⟨fun _ _ _ _ _ _ h => h.elim⟩, fun _ _ _ _ _ _ _ h => h⟩
end
/-- the turns of a while: the size of the int in the i-th slot, and one -/
def fuelI (i : Nat) : Env → Nat := fun ρ => match ρ[i]? with
  | some (.val (.int z)) => z.natAbs + 1
  | _ => 0
/-! ### what the head tells of the heap behind the top -/
open PySem.W in
/-- the getter of a property -/
def getterAt (K : Frag) (C : Addr) (m : Str) : Addr := match recIn K (He.ma K C m) "property" with
  | some (.ref g :: _) => g
  | _ => 0
structure Told where
  adr : PySem.W.Frag → Addr
  nm : Str
  ql : Str
  ar : Arguments
  bd : List Stmt
  sc : Scope
  df : List He.Dv := []
def Told.obs (K : PySem.W.Frag) (d : Told) : He.FnW := match K.lookup (d.adr K) with
  | some ⟨_, _, .func g, _⟩ => some (g.name, g.qualname, g.params, g.body, g.scope, g.globals, g.closure, g.builtins)
  | _ => none
def Told.due (d : Told) : He.FnW := some (d.nm, d.ql, d.ar, .stmts d.bd, d.sc, mainGlobals, [], builtinsNs)
def Told.vals (K : PySem.W.Frag) (d : Told) : List V := d.df.map (He.Dv.v K)
def Told.fine (K : PySem.W.Frag) (d : Told) : Bool := match K.lookup (d.adr K) with
  | some ⟨_, _, .func g, _⟩ => PySem.W.keepIn K (.ref (d.adr K)) && PySem.W.codeIn K g.code d.ql && He.dflB K g.defaults (d.vals K) && He.kwdB K g.kwdefaults []
  | _ => false
theorem Told.fun_ {K : PySem.W.Frag} {d : Told} (e : d.obs K = d.due) (c : d.fine K = true) : ∃ g, FunD K d.nm d.ql d.ar d.bd d.sc (d.vals K) [] (d.adr K) g := by
  unfold Told.obs at e
  unfold Told.fine at c
  cases q : K.lookup (d.adr K) with
  | none => rw [q] at e; cases e
  | some o =>
    obtain ⟨o1, o2, o3, o4⟩ := o
    rw [q] at e c
    cases o3 with
    | func g =>
      obtain ⟨g1, g2, g3, g4, g5, g6, g7, g8, g9, g10, g11, g12, g13, g14, g15⟩ := g
      simp only [Told.due, Option.some.injEq, Prod.mk.injEq] at e
      simp only [Bool.and_eq_true] at c
      obtain ⟨rfl, rfl, rfl, rfl, rfl, rfl, rfl, rfl⟩ := e
      obtain ⟨⟨⟨c1, c2⟩, c3⟩, c4⟩ := c
      exact ⟨_, ⟨o1, o2, g8, g9, g10, g11, g12, g13, g14, o4, rfl, q, c2, He.dflB_ok c3, He.kwdB_ok c4⟩, c1⟩
    | _ => cases e
abbrev Sight : Type := Bool × List He.FnW
/-- the places that a division by a great int looks at -/
def rootsIn (K : PySem.W.Frag) : Bool := (K.lookup cStatics).isSome && ((K.lookup sysModules).isSome && ((K.lookup builtinsNs).isSome && ((K.lookup mainGlobals).isSome && match PySem.W.nsIn K mainGlobals "__builtins__" with
  | some (some (.ref b)) => (K.lookup b).isSome
  | _ => false)))
def sight (cs : List (PySem.W.Frag → Bool)) (fn : List Told) (K : PySem.W.Frag) : Sight := (rootsIn K && ((cs.all fun c => c K) && fn.all fun d => d.fine K), fn.map fun d => d.obs K)
def due (fn : List Told) : Sight := (true, fn.map Told.due)
def Seen (cs : List (PySem.W.Frag → Bool)) (fn : List Told) (K : PySem.W.Frag) : Prop := sight cs fn K = due fn
def sightG (n : Nat) (cs : List (PySem.W.Frag → Bool)) (fn : List Told) (g : Addr → Option Obj) : Sight := sight cs fn (He.frG g (He.asD g n ++ [cStatics, sysModules, builtinsNs]))
def hookS (n : Nat) (cs : List (PySem.W.Frag → Bool)) (fn : List Told) : PySem.W.Hook where
  α := Sight
  obs s := sightG n cs fn s.heap.get?
  val _ := due fn
  says _ h := ∃ K : PySem.W.Frag, K.In h ∧ Seen cs fn K
  of _ _ e := ⟨_, He.frG_in, e⟩
  keeps _ _ _ := fun ⟨K, i, c⟩ k => ⟨K, PySem.W.Frag.In.keeps i k, c⟩
theorem sightG_eq {n : Nat} {cs : List (PySem.W.Frag → Bool)} {fn : List Told} {g : Addr → Option Obj} {s : Shared} (h : ∀ a, g a = s.heap.get? a) : sightG n cs fn g = (hookS n cs fn).obs s := by
  rw [show g = s.heap.get? from funext h] <;> rfl
section
variable {cs : List (PySem.W.Frag → Bool)} {fn : List Told} {K : PySem.W.Frag}
theorem Seen.all (c : Seen cs fn K) : (cs.all fun c => c K) = true ∧ (fn.all fun d => d.fine K) = true ∧ (fn.map fun d => d.obs K) = fn.map Told.due := by
  have h1 := congrArg (fun z : Sight => z.1) c
  have h2 := congrArg (fun z : Sight => z.2) c
  obtain ⟨h3, h4⟩ := Bool.and_eq_true_iff.mp (Bool.and_eq_true_iff.mp h1).2
  exact ⟨h3, h4, h2⟩
theorem Seen.roots (c : Seen cs fn K) : rootsIn K = true := (Bool.and_eq_true_iff.mp (congrArg (fun z : Sight => z.1) c)).1
theorem Seen.of (c : Seen cs fn K) (i : Nat) {f : PySem.W.Frag → Bool} (h : cs[i]? = some f) : f K = true := List.all_eq_true.mp c.all.1 f (List.mem_of_getElem? h)
theorem Seen.fun_ (c : Seen cs fn K) (i : Nat) {d : Told} (h : fn[i]? = some d) : ∃ g, FunD K d.nm d.ql d.ar d.bd d.sc (d.vals K) [] (d.adr K) g := by
  obtain ⟨_, h2, h3⟩ := c.all
  have e : (fn.map fun d => d.obs K)[i]? = (fn.map Told.due)[i]? := by rw [h3]
  rw [List.getElem?_map, List.getElem?_map, h] at e
  exact Told.fun_ (Option.some.inj e) (List.all_eq_true.mp h2 d (List.mem_of_getElem? h))
end
/-! ### single facts -/
def decO {α : Type} [DecidableEq α] (a b : Option α) : Bool := decide (a = b)
def gloC (x : Str) (K : PySem.W.Frag) : Bool := (He.Fa.glo x).ok K && PySem.W.keepIn K (.ref (He.ga K x))
def clsC (x : Str) (K : PySem.W.Frag) : Bool := (He.Fa.glo x).ok K && ((He.Fa.cls x).ok K && (PySem.W.selfFirst K (He.ga K x) && (He.eqO (PySem.W.findIn K (.ref (He.ga K x)) "__class__") (some (some (.builtin "object.__class__"))) &&
  (He.eqO (PySem.W.specialIn K (.builtin "object.__class__") "__get__") (some (some (.builtin "getset_descriptor.__get__"))) && (decide (PySem.W.takesIn K (.builtin "object.__class__") = some true) && decide (PySem.W.mroIn K (He.ga K x) (.type "object") = some true))))))
def proC (x m : Str) (K : PySem.W.Frag) : Bool := He.eqO (PySem.W.findIn K (.ref (He.ga K x)) m) (some (some (.ref (He.ma K (He.ga K x) m)))) && (He.eqO (PySem.W.specialIn K (.ref (He.ma K (He.ga K x) m)) "__get__") (some (some (.builtin "property.__get__"))) &&
  (decide (PySem.W.takesIn K (.ref (He.ma K (He.ga K x) m)) = some true) && match PySem.W.recIn K (He.ma K (He.ga K x) m) "property" with
    | some (.ref g :: _) => decide (g = getterAt K (He.ga K x) m)
    | _ => false))
def excC (x : Str) (K : PySem.W.Frag) : Bool := (He.Fa.glo x).ok K && (He.Fa.exc x).ok K
def neC (x : Str) (K : PySem.W.Frag) : Bool := He.eqO (PySem.W.findIn K (.ref (He.ga K x)) "__ne__") (some (some (.builtin "object.__ne__")))
def builtC (f : Value → Bool) : Bool := f (.type "NoneType") && (f (.type "bool") && (f (.type "int") && (f (.type "str") && (f (.type "tuple") && f (.type "list")))))
def firstC (x : Str) (nm : Nat → Str) (l : List Nat) (K : PySem.W.Frag) : Bool := builtC (fun t => PySem.W.notFirst K (He.ga K x) t) && l.all fun c => PySem.W.notFirst K (He.ga K x) (.ref (He.ga K (nm c)))
structure Tst where
  non : Bool
  bl : Bool
  int : Bool
  str : Bool
  tup : Bool
  lst : Bool
  objs : List (Nat × Bool)
def Tst.f (t : Tst) : D → Option Bool
  | .non => some t.non
  | .bl _ => some t.bl
  | .int _ => some t.int
  | .str _ => some t.str
  | .tup _ => some t.tup
  | .lst _ => some t.lst
  | .obj c _ => t.objs.lookup c
def isC (u : PySem.W.Frag → Value) (nm : Nat → Str) (t : Tst) (K : PySem.W.Frag) : Bool := decide (PySem.W.kitOne K (.type "NoneType") (u K) = some t.non) && (decide (PySem.W.kitOne K (.type "bool") (u K) = some t.bl) && (decide (PySem.W.kitOne K (.type "int") (u K) = some t.int) &&
  (decide (PySem.W.kitOne K (.type "str") (u K) = some t.str) && (decide (PySem.W.kitOne K (.type "tuple") (u K) = some t.tup) && (decide (PySem.W.kitOne K (.type "list") (u K) = some t.lst) && t.objs.all fun q => decide (PySem.W.kitOne K (.ref (He.ga K (nm q.1))) (u K) = some q.2))))))
def catC (u : PySem.W.Frag → Value) (nm : Nat → Str) (l : List (Nat × Bool)) (K : PySem.W.Frag) : Bool := l.all fun q => decide (PySem.W.exmOne K (.ref (He.ga K (nm q.1))) (u K) = some q.2)
def okTy (l : List Nat) : D → Bool
  | .obj c _ => l.contains c
  | _ => true
theorem lookup_mem {α β : Type} [BEq α] [LawfulBEq α] {a : α} {b : β} : ∀ {l : List (α × β)}, l.lookup a = some b → (a, b) ∈ l
  | [], h => by cases h
  | (x, y) :: r, h => by
    rw [List.lookup_cons] at h
    split at h
    · rename_i q
      cases h
      rw [beq_iff_eq.mp q]
      exact List.mem_cons_self
    · exact List.mem_cons_of_mem _ (lookup_mem h)
/-- classes are named by tags -/
structure Named (Γ : Gam) (nm : Nat → Str) (h : Heap) : Prop where
  KX : Γ.K.In h
  ns : h.Ns mainGlobals Γ.mg
  cl : ∀ c, Γ.cls c = He.ga Γ.K (nm c)
section
variable {Γ : Gam} {nm : Nat → Str} {h : Heap} {x m : Str} {c : Nat}
theorem Named.glo (N : Named Γ nm h) (t : gloC x Γ.K = true) : Glo Γ x (He.ga Γ.K x) := by
  obtain ⟨t1, t2⟩ := Bool.and_eq_true_iff.mp t
  exact ⟨He.glo_ok N.KX N.ns t1, t2⟩
theorem Named.cls_ (N : Named Γ nm h) (e : nm c = x) (t : clsC x Γ.K = true) : ClsOk Γ c x := by
  simp only [clsC, Bool.and_eq_true, decide_eq_true_eq] at t
  obtain ⟨t1, t2, t3, t4, t5, t6, t7⟩ := t
  have q : Γ.cls c = He.ga Γ.K x := by rw [N.cl, e]
  refine ⟨by rw [q]; exact He.glo_ok N.KX N.ns t1, by rw [q]; exact He.cls_ok t2, by rw [q]; exact t3, by rw [q]; exact He.eqO_ok t4, He.eqO_ok t5, t6, by rw [q]; exact t7⟩
theorem Named.meth (N : Named Γ nm h) (e : nm c = x) (t : (He.Fa.meth x m).ok Γ.K = true) : Meth Γ.K (Γ.cls c) m (He.ma Γ.K (He.ga Γ.K x) m) := by
  rw [N.cl, e]
  exact He.meth_ok t
theorem Named.mkr (N : Named Γ nm h) (e : nm c = x) (t : (He.Fa.mkr x).ok Γ.K = true) : Mk Γ.K (Γ.cls c) (He.ma Γ.K (He.ga Γ.K x) "__init__") := by
  rw [N.cl, e]
  exact He.mkr_ok t
theorem Named.noat (N : Named Γ nm h) (e : nm c = x) (t : (He.Fa.noat x m).ok Γ.K = true) : NoAttr Γ.K (Γ.cls c) m := by
  rw [N.cl, e]
  exact He.noat_ok t
theorem Named.pro (N : Named Γ nm h) (e : nm c = x) (t : proC x m Γ.K = true) : PropOf Γ.K (Γ.cls c) m (He.ma Γ.K (He.ga Γ.K x) m) (getterAt Γ.K (He.ga Γ.K x) m) := by
  simp only [proC, Bool.and_eq_true, decide_eq_true_eq] at t
  obtain ⟨t1, t2, t3, t4⟩ := t
  rw [N.cl, e]
  refine ⟨He.eqO_ok t1, He.eqO_ok t2, t3, ?_⟩
  revert t4
  cases q : PySem.W.recIn Γ.K (He.ma Γ.K (He.ga Γ.K x) m) "property" with
  | none => exact fun z => by cases z
  | some l =>
    cases l with
    | nil => exact fun z => by cases z
    | cons v r =>
      cases v <;> first | (exact fun z => by cases z) | skip
      intro t4
      exact ⟨r, by rw [of_decide_eq_true t4]⟩
theorem Named.exc (N : Named Γ nm h) (e : nm c = x) (t : excC x Γ.K = true) : ExcOk Γ c x := by
  obtain ⟨t1, t2⟩ := Bool.and_eq_true_iff.mp t
  obtain ⟨t3, t4, t5, t6⟩ := He.exc_ok t2
  have q : Γ.cls c = He.ga Γ.K x := by rw [N.cl, e]
  exact ⟨by rw [q]; exact He.glo_ok N.KX N.ns t1, by rw [q]; exact t3, by rw [q]; exact t4, by rw [q]; exact t5, by rw [q]; exact t6⟩
theorem Named.mgc (N : Named Γ nm h) (e : nm c = x) (t : (He.Fa.glo x).ok Γ.K = true) : Γ.mg x = some (.ref (Γ.cls c)) := by
  rw [N.cl, e]
  exact He.glo_ok N.KX N.ns t
theorem Named.free (N : Named Γ nm h) (t : (He.Fa.free x).ok Γ.K = true) : Γ.mg x = none := He.free_ok N.KX N.ns t
theorem Named.ne (N : Named Γ nm h) (e : nm c = x) (t : neC x Γ.K = true) : PySem.W.findIn Γ.K (.ref (Γ.cls c)) "__ne__" = some (some (.builtin "object.__ne__")) := by
  rw [N.cl, e]
  exact He.eqO_ok t
theorem Named.first (N : Named Γ nm h) (e : nm c = x) {l : List Nat} (t : firstC x nm l Γ.K = true) : ∀ d, okTy l d = true → PySem.W.notFirst Γ.K (Γ.cls c) (tyv Γ d) = true := by
  simp only [firstC, builtC, Bool.and_eq_true] at t
  obtain ⟨⟨t1, t2, t3, t4, t5, t6⟩, t7⟩ := t
  rw [N.cl, e]
  intro d hd
  cases d with
  | non => exact t1
  | bl b => exact t2
  | int i => exact t3
  | str x => exact t4
  | tup ds => exact t5
  | lst ds => exact t6
  | obj c' fs =>
    show PySem.W.notFirst Γ.K _ (.ref (Γ.cls c')) = true
    rw [N.cl]
    exact List.all_eq_true.mp t7 c' (List.contains_iff_mem.mp hd)
theorem Named.isi (N : Named Γ nm h) {u : PySem.W.Frag → Value} {t : Tst} (q : isC u nm t Γ.K = true) (ho : ∀ p ∈ t.objs, InsOk Γ p.1) : IsiOk Γ (u Γ.K) t.f := by
  simp only [isC, Bool.and_eq_true, decide_eq_true_eq] at q
  obtain ⟨t1, t2, t3, t4, t5, t6, t7⟩ := q
  refine ⟨fun d b e => ?_, fun c fs b e => ho _ (lookup_mem e)⟩
  cases d with
  | non => rw [← e]; exact t1
  | bl b => rw [← e]; exact t2
  | int i => rw [← e]; exact t3
  | str x => rw [← e]; exact t4
  | tup ds => rw [← e]; exact t5
  | lst ds => rw [← e]; exact t6
  | obj c' fs =>
    show PySem.W.kitOne Γ.K (.ref (Γ.cls c')) _ = _
    rw [N.cl]
    exact of_decide_eq_true (List.all_eq_true.mp t7 (c', b) (lookup_mem e))
theorem Named.cat (N : Named Γ nm h) {u : PySem.W.Frag → Value} {l : List (Nat × Bool)} (q : catC u nm l Γ.K = true) : CatchOk Γ (u Γ.K) fun c => l.lookup c :=
  ⟨fun c b e => by rw [N.cl]; exact of_decide_eq_true (List.all_eq_true.mp q (c, b) (lookup_mem e))⟩
end
/-! ### the end of a law -/
theorem look_move {K : PySem.W.Frag} {h h' : Heap} {a : Addr} {o : Obj} (X : K.In h) (X' : K.In h') (c : (K.lookup a).isSome = true) (e : h.get? a = some o) : h'.get? a = some o := by
  obtain ⟨o', q⟩ := Option.isSome_iff_exists.mp c
  have e1 := X a o' q
  rw [e] at e1
  cases e1
  exact X' a o q
theorem ns_move {K : PySem.W.Frag} {h h' : Heap} {a : Addr} {m : Str → Option Value} (X : K.In h) (X' : K.In h') (c : (K.lookup a).isSome = true) (N : h.Ns a m) : h'.Ns a m := by
  obtain ⟨o, es, ep, e, r⟩ := N
  exact ⟨o, es, ep, look_move X X' c e, r⟩
theorem seer_move {K : PySem.W.Frag} {h h' : Heap} {mg : Str → Option Value} (X : K.In h) (X' : K.In h') (c : rootsIn K = true) (N : h.NoSeer) : h'.NoSeer := by
  simp only [rootsIn, Bool.and_eq_true] at c
  obtain ⟨c1, c2, c3, c4, c5⟩ := c
  obtain ⟨n1, n2, n3, n4⟩ := N
  refine ⟨?_, ?_, ?_, ?_⟩
  · obtain ⟨mc, a, b⟩ := n1
    exact ⟨mc, ns_move X X' c1 a, b⟩
  · obtain ⟨mc, a, b⟩ := n2
    exact ⟨mc, ns_move X X' c2 a, b⟩
  · obtain ⟨mc, a, b⟩ := n3
    exact ⟨mc, ns_move X X' c3 a, b⟩
  · obtain ⟨mm, bm, ob, a, b, c, d⟩ := n4
    refine ⟨mm, bm, ob, ns_move X X' c4 a, b, ?_, d⟩
    revert c5
    cases q : PySem.W.nsIn K mainGlobals "__builtins__" with
    | none => exact fun z => by cases z
    | some v =>
      cases v with
      | none => exact fun z => by cases z
      | some v =>
        have e := PySem.W.mg_of X a q
        rw [b] at e
        cases e
        exact fun c5 => look_move X X' c5 c
theorem FnOk.less {P : Program} {w : World} {K : PySem.W.Frag} {mg : Str → Option Value} {base : Heap} {CX : CXT} {k : Nat} {f : Addr} {fd : FuncData} {ps : List Str} {sp sp' : Sp} (F : FnOk P w K mg base CX k f fd ps sp) (i : ∀ vs H Q E, sp' vs H Q E → sp vs H Q E) : FnOk P w K mg base CX k f fd ps sp' := by
  obtain ⟨l, r⟩ := F
  exact ⟨fun vs H Q E z => l vs H Q E (i _ _ _ _ z), fun A st s H fl us vs Q E h1 h2 h3 h4 z => r A st s H fl us vs Q E h1 h2 h3 h4 (i _ _ _ _ z)⟩
/-- what is promised of a law's def -/
def spLaw (K : PySem.W.Frag) (n : Nat) : Sp := fun vs H Q _ => ∃ (a : Addr) (ns : List Int), vs = [.ref a] ∧ ns.length ≤ n ∧ (∀ z ∈ ns, Builtin.Int.intBits z ≤ 1048576) ∧ SqL K H a (ns.map V.int) ∧ ∀ H', Q (.bl true) H'
def scr (ns : List Int) : D := .lst (ns.map D.int)
theorem rp_ints {Γ : Gam} {M : Addr → Prop} {H : Hp} : ∀ ns : List Int, RpL Γ M H (ns.map D.int) (ns.map V.int)
  | [] => .nil
  | i :: r => .cons (by rw [Rp]) (rp_ints r)
theorem spLaw_of {Γ : Gam} {n : Nat} {g : List D → Res D} (pure_ : ∀ ns : List Int, ns.length ≤ n → (∀ z ∈ ns, Builtin.Int.intBits z ≤ 1048576) → g [scr ns] = .ok (.bl true)) (vs : List V) (H : Hp) (Q : VK) (E : XK) (h : spLaw Γ.K n vs H Q E) : spD Γ 1 g vs H Q E := by
  obtain ⟨a, ns, rfl, h1, h2, h3, h4⟩ := h
  refine ⟨fun _ => False, [scr ns], rfl, fun _ z => z.elim, .cons ?_ .nil, ?_⟩
  · unfold scr
    rw [Rp]
    refine ⟨a, ns.map V.int, rfl, ?_, rp_ints ns⟩
    rcases h3 with h3 | h3
    · exact .inl ⟨h3, id⟩
    · exact .inr h3
  · rw [pure_ ns h1 h2]
    intro v H' e r
    rw [Rp] at r
    rw [r]
    exact h4 H'
open PySem.W in
theorem law_end {l : OpenLaw} {n k : Nat} {q : Program} {loose : List Str} {XP : (Str → Option Value) → Heap → Prop} {d : DefRec} {x : Str} {cs : List (Frag → Bool)} {fn : List Told} (most : l.most = some n) (small : n ≤ sizeLine) (nodf : d.params.defaults = []) (room : Room k callerA)
    (free : PyProof.Rows.importsNone q = true)
    (bind : ∀ K, Seen cs fn K → ∃ fd : FuncData, (∀ (s : Shared) (u : Value), BindsTo s fd ⟨[u], []⟩ [(x, u)]) ∧ ∀ (w : World) (h base : Heap) (mg : Str → Option Value), K.In h → h.Ns mainGlobals mg → base.NoSeer → FnOk l.prog w K mg base (L2.CX l.prog w) k (He.ga K d.name) fd [x] (spLaw K n))
    (named : ∀ K (h : Heap) (mg : Str → Option Value), K.In h → h.Ns mainGlobals mg → Seen cs fn K → mg d.name = some (.ref (He.ga K d.name))) {m : Nat} :
    WalkO q loose XP (hookS m cs fn).says l.row.toRowW d [] fun f vs => PySem.call f vs := by
  apply Att.attach_callB most nodf
  intro w s0 s1 mg mb f o pm cd doc a vs ns G Y _ _ _ hmg hobj hints hlen hbits hgen
  obtain ⟨K, X, c⟩ := Y
  obtain ⟨fd, hb, hF⟩ := bind K c
  have e := named K _ mg X G.T.g c
  rw [hmg] at e
  cases e
  exact law_call (sp := spLaw K n) X G.T.g G.T.b G.T.builtins G.T.nolimit hgen hobj hints (Nat.le_trans hlen small) room (fun base X' _ => hF w _ base mg X G.T.g (seer_move (mg := mg) X X' c.roots (G.T.seer free))) hb
    (fun H _ hS => ⟨a, ns, rfl, hlen, hbits, hS, fun _ => rfl⟩) fun H e s' z => by
      obtain ⟨_, _, _, _, _, _, _, _, _, _, _, _, z⟩ := z
      exact z
set_option Elab.async false
set_option linter.all false
set_option maxRecDepth 100000
set_option maxHeartbeats 4000000
/-! ### list comprehensions -/
open PySem L2
def notOwn (ρ : Env) (v : Nat) : Bool := match ρ[v]? with
  | some c => !c.isOwn
  | none => true
def wipeE (ρ : Env) : List Nat → Env
  | [] => ρ
  | v :: vs => List.set (wipeE ρ vs) v .no
theorem wipeE_length (ρ : Env) : ∀ vs : List Nat, (wipeE ρ vs).length = ρ.length
  | [] => rfl
  | v :: vs => by unfold wipeE; rw [List.length_set, wipeE_length ρ vs]
theorem wipeE_get {ρ : Env} {j : Nat} {c : Cell} : ∀ {vs : List Nat}, (wipeE ρ vs)[j]? = some c → c = .no ∨ (j ∉ vs ∧ ρ[j]? = some c)
  | [], h => .inr ⟨by simp, h⟩
  | v :: vs, h => by
    unfold wipeE at h
    by_cases e : v = j
    · subst e
      rw [List.getElem?_set] at h
      split at h
      · split at h
        · cases h; exact .inl rfl
        · cases h
      · rename_i z; exact (z rfl).elim
    · rw [List.getElem?_set_ne e] at h
      rcases wipeE_get h with h | ⟨h1, h2⟩
      · exact .inl h
      · exact .inr ⟨by simp only [List.mem_cons, not_or]; exact ⟨fun z => e z.symm, h1⟩, h2⟩
theorem wipeE_out {ρ : Env} {j : Nat} : ∀ {vs : List Nat}, j ∉ vs → (wipeE ρ vs)[j]? = ρ[j]?
  | [], _ => rfl
  | v :: vs, h => by
    simp only [List.mem_cons, not_or] at h
    unfold wipeE
    rw [List.getElem?_set_ne fun z => h.1 z.symm, wipeE_out h.2]
theorem wipe_in {σ : St} {j : Nat} : ∀ {vs : List Nat}, j ∈ vs → j < σ.length → (wipe σ vs)[j]? = some none
  | v :: vs, h, hl => by
    unfold wipe
    by_cases e : v = j
    · subst e
      rw [List.getElem?_set_self (by rw [wipe_length]; exact hl)]
    · rw [List.getElem?_set_ne e]
      rcases List.mem_cons.mp h with z | z
      · exact (e z.symm).elim
      · exact wipe_in z hl
/-- what stands outside the slots vs is kept -/
def Kept {α : Type} (vs : List Nat) (x y : List α) : Prop := y.length = x.length ∧ ∀ j, j ∉ vs → y[j]? = x[j]?
theorem Kept.refl {α : Type} {vs : List Nat} (x : List α) : Kept vs x x := ⟨rfl, fun _ _ => rfl⟩
theorem Kept.trans {α : Type} {vs : List Nat} {x y z : List α} (a : Kept vs x y) (b : Kept vs y z) : Kept vs x z := ⟨b.1.trans a.1, fun j h => (b.2 j h).trans (a.2 j h)⟩
theorem Kept.set {α : Type} {vs : List Nat} {x : List α} {i : Nat} {a : α} (h : i ∈ vs) : Kept vs x (x.set i a) := ⟨List.length_set, fun j hj => List.getElem?_set_ne fun z => hj (by rw [← z]; exact h)⟩
theorem wipe_kept {σ σ2 : St} {vs : List Nat} (h : Kept vs (wipe σ vs) σ2) : wipe σ2 vs = wipe σ vs := by
  have hl : σ2.length = σ.length := by rw [h.1, wipe_length]
  apply List.ext_getElem?
  intro j
  by_cases hj : j ∈ vs
  · by_cases l : j < σ.length
    · rw [wipe_in hj (by rw [hl]; exact l), wipe_in hj l]
    · rw [List.getElem?_eq_none (by rw [wipe_length]; omega), List.getElem?_eq_none (by rw [wipe_length]; omega)]
  · rw [wipe_out hj, h.2 j hj]
section
variable {Γ : Gam} {k : Nat} {X : Cx} {W : WX}
theorem own_wipe {σ : St} {ρ : Env} {vs : List Nat} {j : Nat} {p : Addr} (h : OwnAt (wipe σ vs) (wipeE ρ vs) j p) : j ∉ vs ∧ OwnAt σ ρ j p := by
  obtain ⟨c, h1, h2, h3⟩ := h
  rcases wipeE_get h1 with e | ⟨h4, h5⟩
  · rw [e] at h2; cases h2
  · exact ⟨h4, c, h5, h2, by rw [← wipe_out h4]; exact h3⟩
theorem own_unwipe {σ : St} {ρ : Env} {vs : List Nat} {j : Nat} {p : Addr} (hv : vs.all (notOwn ρ) = true) (h : OwnAt σ ρ j p) : j ∉ vs ∧ OwnAt (wipe σ vs) (wipeE ρ vs) j p := by
  obtain ⟨c, h1, h2, h3⟩ := h
  have hj : j ∉ vs := fun z => by
    have := List.all_eq_true.mp hv j z
    unfold notOwn at this
    rw [h1] at this
    simp [h2] at this
  exact ⟨hj, c, by rw [wipeE_out hj]; exact h1, h2, by rw [wipe_out hj]; exact h3⟩
/-- the slots as a block sees them: D, the list that is being made, is not met -/
theorem Gd.blk {M0 : Bd} {H0 : Hp} {σ : St} {H1 H : Hp} {ρ : Env} {D : Addr} {vs : List Nat} (G : Gd Γ M0 H0 σ H1 ρ) (hn : H1 D = none) (e : Same H1 H) (hD : H D ≠ none) :
    Gd Γ { M0 with M := fun a => M0.M a ∨ a = D } (ground M0 σ ρ H) (wipe σ vs) H (wipeE ρ vs) := by
  have G2 := G.mono e
  have nown : ∀ i, ¬ OwnAt σ ρ i D := fun i z => Mx.alive G (.inr ⟨i, z⟩) hn
  have sub : ∀ a, Mx { M0 with M := fun a => M0.M a ∨ a = D } (wipe σ vs) (wipeE ρ vs) a → Mx M0 σ ρ a ∨ a = D := fun a z => by
    rcases z with (z | z) | ⟨i, z⟩
    · exact .inl (.inl z)
    · exact .inr z
    · exact .inl (.inr ⟨i, (own_wipe z).2⟩)
  have imp : Imp (Mx M0 σ ρ) (Mx { M0 with M := fun a => M0.M a ∨ a = D } (wipe σ vs) (wipeE ρ vs)) H1 H := fun a o h n => ⟨fun z => (sub a z).elim n fun q => (by rw [q, hn] at h; cases h), e a o h⟩
  refine ⟨by rw [wipe_length, wipeE_length, G.len], fun a o h => (ground_some h).1, fun a h => ?_, fun i c h => ?_, fun i p h => ground_own (own_wipe h).2, fun i j p h1 h2 => G.inj i j p (own_wipe h1).2 (own_wipe h2).2⟩
  · rcases h with h | h
    · rw [ground_not (fun ⟨i, z⟩ => G.m0 a h (G.new i a z))]
      exact fun z => Mx.alive G2 (.inl h) z
    · subst h
      rw [ground_not (fun ⟨i, z⟩ => nown i z)]
      exact hD
  · rcases wipeE_get h with h | ⟨h1, h2⟩
    · subst h; trivial
    · rw [wipe_out h1]
      have z := COk.imp imp (fun p _ _ o h => e p o h) (fun a us h => e a _ h) (G.cel i c h2)
      cases c <;> exact z
/-! ### one reading for all contexts -/
def canE (Γ : Gam) (f : Env → Res D) (W : WX) : TE := fun σ H Q => ∃ (M0 : Bd) (H0 : Hp) (ρ : Env), Gd Γ M0 H0 σ H ρ ∧ Post Γ W σ H (f ρ) (WantE Γ (Mx M0 σ ρ) H Q)
theorem DE.can {e : Expr} {f : Env → Res D} (h : DE Γ k X W e f) (S : Sit Γ k X W) : PE X e (canE Γ f W) := by
  obtain ⟨te, pe, r⟩ := h S
  exact ⟨fun pins s σ H Q I ⟨M0, H0, ρ, G, q⟩ => pe.run pins s σ H Q I (r M0 H0 σ H ρ Q G q)⟩
/-- the conditions of a clause -/
def DTs (Γ : Gam) (k : Nat) (X : Cx) (W : WX) (es : List Expr) (f : Env → Res Bool) : Prop := Sit Γ k X W → ∃ tt : TT, PTs X es tt ∧
  ∀ M0 H0 σ H ρ Q, Gd Γ M0 H0 σ H ρ → Post Γ W σ H (f ρ) (WantB H Q) → tt σ H Q
def canT (Γ : Gam) (f : Env → Res Bool) (W : WX) : TT := fun σ H Q => ∃ (M0 : Bd) (H0 : Hp) (ρ : Env), Gd Γ M0 H0 σ H ρ ∧ Post Γ W σ H (f ρ) (WantB H Q)
theorem DTs.can {es : List Expr} {f : Env → Res Bool} (h : DTs Γ k X W es f) (S : Sit Γ k X W) : PTs X es (canT Γ f W) := by
  obtain ⟨te, pe, r⟩ := h S
  exact ⟨fun pins s σ H Q I ⟨M0, H0, ρ, G, q⟩ => pe.run pins s σ H Q I (r M0 H0 σ H ρ Q G q)⟩
def T.yes : Env → Res Bool := fun _ => .ok true
theorem dts_nil : DTs Γ k X W [] T.yes := fun S => ⟨_, pts_nil, fun M0 H0 σ H ρ Q G h => (show WantB H Q true from h) H (Same.refl H)⟩
theorem dts_one {e : Expr} {f : Env → Res Bool} (h : DT Γ k X W e f) : DTs Γ k X W [e] f := fun S => by
  obtain ⟨tt, pt, r⟩ := h S
  exact ⟨tt, pts_one pt, r⟩
/-- a target whose names stand in the slots vs -/
def DGw (Γ : Gam) (vs : List Nat) (k : Nat) (X : Cx) (W : WX) (tg : Expr) (f : D → Env → Option Env) : Prop := Sit Γ k X W → ∃ g : TG, PG X tg g ∧
  ∀ M0 H0 σ H ρ (M : Addr → Prop) (d : D) (v : V) (Q : St → Hp → Prop), Gd Γ M0 H0 σ H ρ → (∀ a, Mx M0 σ ρ a → M a) → Rp Γ M H d v →
    (∃ ρ', f d ρ = some ρ' ∧ ∀ σ' H', Gd Γ M0 H0 σ' H' ρ' → Same H H' → (∀ a, Mx M0 σ' ρ' a → M a) → Kept vs σ σ' → Kept vs ρ ρ' → Q σ' H') → g v σ H Q
def DGsw (Γ : Gam) (vs : List Nat) (k : Nat) (X : Cx) (W : WX) (tgs : List Expr) (f : List D → Env → Option Env) : Prop := Sit Γ k X W → ∃ g : TGs, PGs X tgs g ∧
  ∀ M0 H0 σ H ρ (M : Addr → Prop) (ds : List D) (us : List V) (Q : St → Hp → Prop), Gd Γ M0 H0 σ H ρ → (∀ a, Mx M0 σ ρ a → M a) → RpL Γ M H ds us →
    (∃ ρ', f ds ρ = some ρ' ∧ ∀ σ' H', Gd Γ M0 H0 σ' H' ρ' → Same H H' → (∀ a, Mx M0 σ' ρ' a → M a) → Kept vs σ σ' → Kept vs ρ ρ' → Q σ' H') → g us σ H Q
variable {vs : List Nat}
theorem dgw_name (i : Nat) {x : Str} {pos : Pos} (nd : X.N.Nodup) (hv : i ∈ vs := by decide) (hi : X.N[i]? = some x := by rfl) (hx : Loc X.env.scope x := by first | exact Or.inl rfl | exact Or.inr rfl) (hf : X.fn x = true ∨ X.env.scope.names.lookup x = some .local := by first | exact .inl rfl | exact .inr rfl) :
    DGw Γ vs k X W (.Name x pos) (S.tgt i) := fun St => by
  refine ⟨_, pg_name nd hi hx hf, fun M0 H0 σ H ρ M d v Q G hm r h => ?_⟩
  obtain ⟨ρ', e, h⟩ := h
  unfold S.tgt at e
  split at e
  · rename_i hi
    cases e
    refine h _ _ (G.set_val hi (Same.refl H) (Rp.imp (.weak hm) d v r)) (Same.refl H) (fun a z => hm a ?_) (Kept.set hv) (Kept.set hv)
    rcases z with z | ⟨j, z⟩
    · exact .inl z
    · exact .inr ⟨j, (own_set_val z).1⟩
  · cases e
theorem dgsw_nil : DGsw Γ vs k X W [] S.gnil := fun St => by
  refine ⟨_, pgs_nil, fun M0 H0 σ H ρ M ds us Q G hm r h => ?_⟩
  obtain ⟨ρ', e, h⟩ := h
  cases ds with
  | nil =>
    cases e
    rw [RpL] at r
    exact ⟨r, h σ H G (Same.refl H) hm (Kept.refl _) (Kept.refl _)⟩
  | cons d ds => cases e
theorem dgsw_cons {e : Expr} {es : List Expr} {g : D → Env → Option Env} {f : List D → Env → Option Env} (hd : DGw Γ vs k X W e g) (ht : DGsw Γ vs k X W es f)
    (hs : (assignEach (e :: es) X.env).map (·.2) = assign e X.env :: (assignEach es X.env).map (·.2) := by rfl) : DGsw Γ vs k X W (e :: es) (S.gcons g f) := fun St => by
  obtain ⟨g1, p1, r1⟩ := hd St
  obtain ⟨g2, p2, r2⟩ := ht St
  refine ⟨_, pgs_cons p1 p2 hs, fun M0 H0 σ H ρ M ds us Q G hm r h => ?_⟩
  obtain ⟨ρ', e, h⟩ := h
  cases ds with
  | nil => cases e
  | cons d ds =>
    rw [RpL] at r
    obtain ⟨v, t, rfl, q1, q2⟩ := r
    unfold S.gcons at e
    dsimp only at e
    cases z : g d ρ with
    | none => rw [z] at e; cases e
    | some ρ1 =>
      rw [z] at e
      exact ⟨v, t, rfl, r1 M0 H0 σ H ρ M d v _ G hm q1 ⟨ρ1, z, fun σ1 H1 G1 s1 hm1 k1 k2 => r2 M0 H0 σ1 H1 ρ1 M ds t Q G1 hm1 (q2.mono s1) ⟨ρ', e, fun σ2 H2 G2 s2 hm2 k3 k4 => h σ2 H2 G2 (s1.trans s2) hm2 (k1.trans k3) (k2.trans k4)⟩⟩⟩
theorem dgw_tup {es : List Expr} {c : Nat} {f : List D → Env → Option Env} {n : Nat} {pos : Pos} (hs : DGsw Γ vs k X W es f) (hk : 0 < k := by first | decide | omega) (hn : (assignEach es X.env).length = n := by rfl) (hst : (assignEach es X.env).findIdx? (·.1) = none := by rfl) :
    DGw Γ vs k X W (.Tuple es c pos) (S.gtup n f) := fun St => by
  obtain ⟨g, pg, rg⟩ := hs St
  refine ⟨_, pg_tup (St.calm hk) pg hn hst, fun M0 H0 σ H ρ M d v Q G hm r h => ?_⟩
  obtain ⟨ρ', e, h⟩ := h
  cases d with
  | tup ds =>
    rw [Rp] at r
    obtain ⟨a, us, rfl, t, r⟩ := r
    unfold S.gtup at e
    dsimp only at e
    split at e
    · rename_i hl
      exact ⟨a, us, rfl, by rw [St.K]; exact t.sq, by rw [r.length, hl], rg M0 H0 σ H ρ M ds us Q G hm r ⟨ρ', e, h⟩⟩
    · cases e
  | _ => cases e
def canG (Γ : Gam) (vs : List Nat) (f : D → Env → Option Env) : TG := fun v σ H Q => ∃ (M0 : Bd) (H0 : Hp) (ρ : Env) (M : Addr → Prop) (d : D), Gd Γ M0 H0 σ H ρ ∧ (∀ a, Mx M0 σ ρ a → M a) ∧ Rp Γ M H d v ∧
  ∃ ρ', f d ρ = some ρ' ∧ ∀ σ' H', Gd Γ M0 H0 σ' H' ρ' → Same H H' → (∀ a, Mx M0 σ' ρ' a → M a) → Kept vs σ σ' → Kept vs ρ ρ' → Q σ' H'
theorem DGw.can {tg : Expr} {f : D → Env → Option Env} (h : DGw Γ vs k X W tg f) (S : Sit Γ k X W) : PG X tg (canG Γ vs f) := by
  obtain ⟨g, pg, r⟩ := h S
  exact ⟨fun pins s σ H v u Q I rv ⟨M0, H0, ρ, M, d, G, hm, rp, q⟩ => pg.run pins s σ H v u Q I rv (r M0 H0 σ H ρ M d v Q G hm rp q)⟩
theorem Sit.blk (S : Sit Γ k X W) (s : Shared) (H : Hp) (scope : Scope) (cenv : PySem.Env) (fp : List Addr) : Sit Γ k (X.blk s H scope cenv fp) W0 :=
  ⟨S.P, S.w, S.K, S.mg, S.base, S.room, S.calm, takes0, PassesOwn.never, S.nd, S.seer, S.ns⟩
end
namespace E
def compL (vs : List Nat) (g : D → Env → Option Env) (t : Env → Res Bool) (e : Env → Res D) : List D → Env → Res (List D)
  | [], _ => .ok []
  | d :: ds, ρ => match g d (wipeE ρ vs) with
    | none => .stuck
    | some ρ1 => match t ρ1 with
      | .ok true => (match e ρ1 with
        | .ok y => (compL vs g t e ds ρ).bind fun r => .ok (y :: r)
        | _ => .stuck)
      | .ok false => compL vs g t e ds ρ
      | _ => .stuck
/-- [e for g in it if t]: the clause's names in the slots vs -/
def comp (vs : List Nat) (it : Env → Res (List D)) (g : D → Env → Option Env) (t : Env → Res Bool) (e : Env → Res D) : Env → Res (List D) := fun ρ => (it ρ).bind fun ds => if vs.all (notOwn ρ) = true ∧ ds.length ≤ sizeLine then compL vs g t e ds ρ else .stuck
end E
theorem compL_ok {vs : List Nat} {g : D → Env → Option Env} {t : Env → Res Bool} {e : Env → Res D} : ∀ {ds : List D} {ρ : Env} (x : Exn), E.compL vs g t e ds ρ ≠ .exc x
  | [], _, _ => fun h => by cases h
  | d :: ds, ρ, x => fun h => by
    unfold E.compL at h
    split at h
    · cases h
    · split at h
      · split at h
        · cases q : E.compL vs g t e ds ρ with
          | stuck => rw [q] at h; cases h
          | ok r => rw [q] at h; cases h
          | exc y => exact compL_ok y q
        · cases h
      · exact compL_ok x h
      · cases h
/-- what a comprehension walks: while it walks, all stands -/
def WantC (Γ : Gam) (M : Addr → Prop) (H : Hp) (R : It → Hp → Prop) (ds : List D) : Prop := ∀ (J : It) (H1 : Hp) (G : Hp → Prop) (Y : Nat → Hp → V → Hp → Prop), Same H H1 → Walk J ds.length G Y →
  (∀ (M' : Addr → Prop) (H' : Hp), Imp M M' H1 H' → Same H1 H' → (∀ a, M' a → H' a ≠ none) → G H' ∧ ∀ i x H2, i < ds.length → Y i H' x H2 → Same H' H2 ∧ ∃ d, ds[i]? = some d ∧ Rp Γ M' H2 d x) → R J H1
def DC (Γ : Gam) (k : Nat) (X : Cx) (W : WX) (tg e : Expr) (f : Env → Res (List D)) : Prop := Sit Γ k X W → ∃ wi : TI, PI X tg e wi ∧
  ∀ M0 H0 σ H ρ R, Gd Γ M0 H0 σ H ρ → Post Γ W σ H (f ρ) (WantC Γ (Mx M0 σ ρ) H R) → wi σ H R
section
variable {Γ : Gam} {k : Nat} {X : Cx} {W : WX}
theorem dc_di {tg e : Expr} {f : Env → Res (List D)} (h : DI Γ k X W tg e f) : DC Γ k X W tg e f := fun S => by
  obtain ⟨wi, pi, r⟩ := h S
  exact ⟨wi, pi, fun M0 H0 σ H ρ R G h => r M0 H0 σ H ρ R G (h.imp (Same.refl H) fun ds w J H1 G' Y e wk z => w J H1 G' Y e wk fun M' H' im _ al => z M' H' im al)⟩
theorem comp_core {vs : List Nat} {wi : TI} {fi : Env → Res (List D)} {g : D → Env → Option Env} {ft : Env → Res Bool} {fe : Env → Res D} {Q : VK}
    (ri : ∀ M0 H0 σ H ρ R, Gd Γ M0 H0 σ H ρ → Post Γ W σ H (fi ρ) (WantC Γ (Mx M0 σ ρ) H R) → wi σ H R)
    {M0 : Bd} {H0 : Hp} {σ : St} {H : Hp} {ρ : Env} (G : Gd Γ M0 H0 σ H ρ) (h : Post Γ W σ H (E.comp vs fi g ft fe ρ) (WantF Γ (Mx M0 σ ρ) H Q)) :
    tLc wi (canG Γ vs g) (canT Γ ft W0) (canE Γ fe W0) vs σ H Q := by
  refine ri M0 H0 σ H ρ _ G ((Post.bind h).imp (Same.refl H) fun ds w J H1 GG Y e1 wk z D hD => ?_)
  split at w
  · rename_i hv
    obtain ⟨hv, hz⟩ := hv
    cases q : E.compL vs g ft fe ds ρ with
    | stuck => rw [q] at w; exact w.elim
    | exc x => exact (compL_ok x q).elim
    | ok rs =>
      rw [q] at w
      have G1 := G.mono e1
      have nown : ∀ a, Mx M0 σ ρ a → a ≠ D := fun a za e => Mx.alive G1 za (e ▸ hD)
      refine lc_it wk (fun i H' => Same H1 H' ∧ ∃ acc as, H' D = some (.lst acc) ∧ RpL Γ (fun a => Mx M0 σ ρ a ∨ a = D) H' as acc ∧ acc.length ≤ i ∧ (E.compL vs g ft fe (ds.drop i) ρ).bind (fun r => .ok (as ++ r)) = .ok rs) ?_ ?_ ?_ ?_
      · refine ⟨fun a o h => by rw [upd_ne (ne_of_none h hD)]; exact h, [], [], upd_same, .nil, Nat.le_refl _, ?_⟩
        rw [List.drop_zero, q]
        rfl
      · rintro i H' _ ⟨e2, acc, as, hD2, r2, _, _⟩
        refine (z (fun a => Mx M0 σ ρ a ∨ a = D) H' (fun a o h n => ⟨fun y => y.elim n fun y => (by rw [y, hD] at h; cases h), e2 a o h⟩) e2 fun a y => ?_).1
        rcases y with y | y
        · exact Mx.alive (G1.mono e2) y
        · rw [y, hD2]; exact fun z => by cases z
      · rintro i x H' H2 hi ⟨e2, acc, as, hD2, r2, l2, c2⟩ y
        have nD : H' D ≠ none := by rw [hD2]; exact fun z => by cases z
        obtain ⟨s2, d, hd, rx⟩ := (z (fun a => Mx M0 σ ρ a ∨ a = D) H' (fun a o h n => ⟨fun y => y.elim n fun y => (by rw [y, hD] at h; cases h), e2 a o h⟩) e2 (fun a y => y.elim (fun y => Mx.alive (G1.mono e2) y) fun y => y ▸ nD)).2 i x H2 hi y
        have ed : ds.drop i = d :: ds.drop (i + 1) := by
          rw [List.drop_eq_getElem_cons hi]
          rw [List.getElem?_eq_getElem hi] at hd
          cases hd
          rfl
        have GB := (G1.blk (vs := vs) hD e2 nD).mono s2
        rw [ed] at c2
        unfold E.compL at c2
        cases zg : g d (wipeE ρ vs) with
        | none => rw [zg] at c2; cases c2
        | some ρ1 =>
          rw [zg] at c2
          dsimp only at c2
          refine ⟨_, _, _, fun a => Mx M0 σ ρ a ∨ a = D, d, GB, fun a y => ?_, rx, ρ1, zg, fun σ2 H3 G3 s3 hm3 k3 k4 => ⟨wipe_kept k3, ?_⟩⟩
          · rcases y with (y | y) | ⟨j, y⟩
            · exact .inl (.inl y)
            · exact .inr y
            · exact .inl (.inr ⟨j, (own_wipe y).2⟩)
          · have sub : ∀ a, Mx M0 σ ρ a ∨ a = D → Mx { M0 with M := fun a => M0.M a ∨ a = D } σ2 ρ1 a := fun a y => by
              rcases y with (y | ⟨j, y⟩) | y
              · exact .inl (.inl y)
              · obtain ⟨nj, c, o1, o2, o3⟩ := own_unwipe hv y
                exact .inr ⟨j, c, by rw [k4.2 j nj]; exact o1, o2, by rw [k3.2 j nj]; exact o3⟩
              · exact .inl (.inr y)
            refine ⟨_, _, ρ1, G3, ?_⟩
            have r3 := (r2.mono s2).mono s3
            cases zt : ft ρ1 with
            | stuck => rw [zt] at c2; cases c2
            | exc x => rw [zt] at c2; cases c2
            | ok b =>
              rw [zt] at c2
              refine fun H4 e4 => ?_
              have r4 := r3.mono e4
              have e5 : Same H1 H4 := ((e2.trans s2).trans s3).trans e4
              have hD4 : H4 D = some (.lst acc) := e4 _ _ (s3 _ _ (s2 _ _ hD2))
              cases b with
              | false =>
                exact ⟨e5, acc, as, hD4, r4, Nat.le_succ_of_le l2, c2⟩
              | true =>
                refine ⟨_, _, ρ1, G3.mono e4, ?_⟩
                cases ze : fe ρ1 with
                | stuck => rw [ze] at c2; cases c2
                | exc x => rw [ze] at c2; cases c2
                | ok dy =>
                  rw [ze] at c2
                  dsimp only at c2
                  intro v H5 e6 rv
                  have hD5 := e6 _ _ hD4
                  have im : Imp (fun a => Mx M0 σ ρ a ∨ a = D) (fun a => Mx M0 σ ρ a ∨ a = D) H5 (upd H5 D (.lst (acc ++ [v]))) := fun a o h n => ⟨n, by rw [upd_ne fun y => n (.inr y)]; exact h⟩
                  refine ⟨acc, hD5, by omega, fun a o h => ?_, acc ++ [v], as ++ [dy], upd_same, ?_, by rw [List.length_append]; simp; omega, ?_⟩
                  · rw [upd_ne (ne_of_none h hD)]
                    exact e6 _ _ (e5 _ _ h)
                  · exact RpL.imp im _ _ ((r4.mono e6).append (.cons (Rp.imp (.weak sub) dy v rv) .nil))
                  · cases zc : E.compL vs g ft fe (ds.drop (i + 1)) ρ with
                    | stuck => rw [zc] at c2; cases c2
                    | exc x => rw [zc] at c2; cases c2
                    | ok r =>
                      rw [zc] at c2
                      simpa using c2
      · rintro H' ⟨e2, acc, as, hD2, r2, _, c2⟩
        rw [List.drop_length] at c2
        have ee : as = rs := by
          have : (.ok (as ++ []) : Res (List De.D)) = .ok rs := c2
          rw [List.append_nil] at this
          injection this
        subst ee
        exact (show WantF Γ (Mx M0 σ ρ) H Q as from w) D acc H' (e1.free hD) (e1.trans e2) hD2 r2
  · exact (show False from w).elim
variable {elt tg iter : Expr} {ifs : List Expr} {scope : Scope} {own : List (Str × Nat)} {pos : Pos} {fi : Env → Res (List D)} {g : D → Env → Option Env} {ft : Env → Res Bool} {fe : Env → Res D}
abbrev InBlk (X : Cx) (scope : Scope) (P : Cx → Prop) : Prop := ∀ (s : Shared) (H : Hp) (C : Addr) (cl : List (Str × Addr)) (fp : List Addr), P (X.blk s H scope (compEnvC scope cl C X.env) fp)
theorem df_lc (own : List (Str × Nat)) (nd : X.N.Nodup) (hi : DC Γ k X W tg iter fi) (hg : InBlk X scope fun Y => DGw Γ (own.map (·.2)) k Y W0 tg g) (ht : InBlk X scope fun Y => DTs Γ k Y W0 ifs ft) (he : InBlk X scope fun Y => DE Γ k Y W0 elt fe)
    (ok : blkC X.N X.env.scope scope own = true := by rfl) (hk : 0 < k := by first | decide | omega) (hs : ∀ x, foldedSetIterable iter X.env x = pure x := by intro _; rfl) :
    DF Γ k X W (.ListComp elt [⟨tg, iter, ifs, 0⟩] scope pos) (E.comp (own.map (·.2)) fi g ft fe) := fun S => by
  obtain ⟨wi, pi, ri⟩ := hi S
  refine ⟨_, pe_lc (own := own) (g := canG Γ (own.map (·.2)) g) (tt := canT Γ ft W0) (te := canE Γ fe W0) (S.calm hk) nd pi (blkOk_by ok) (fun s H C cl fp => (hg s H C cl fp).can (S.blk _ _ _ _ _)) (fun s H C cl fp => (ht s H C cl fp).can (S.blk _ _ _ _ _)) (fun s H C cl fp => (he s H C cl fp).can (S.blk _ _ _ _ _)) hs, fun M0 H0 σ H ρ Q G h => ?_⟩
  exact comp_core ri G h
/-- y = [..] on one line, y a local -/
theorem ds_setFLc (i : Nat) (own : List (Str × Nat)) {y : Str} {py spos : Pos} (nd : X.N.Nodup) (hi : DC Γ k X W tg iter fi) (hg : InBlk X scope fun Y => DGw Γ (own.map (·.2)) k Y W0 tg g) (ht : InBlk X scope fun Y => DTs Γ k Y W0 ifs ft) (he : InBlk X scope fun Y => DE Γ k Y W0 elt fe)
    (hy : X.N[i]? = some y := by rfl) (hyl : X.env.scope.names.lookup y = some .local := by rfl) (hsw : swapsWith (.ListComp elt [⟨tg, iter, ifs, 0⟩] scope pos) (some (.Name y py)) spos.line X.env = pure true := by rfl)
    (ok : blkC X.N X.env.scope scope own = true := by rfl) (hk : 0 < k := by first | decide | omega) (hs : ∀ x, foldedSetIterable iter X.env x = pure x := by intro _; rfl) :
    DS Γ k X W (.Assign [.Name y py] (.ListComp elt [⟨tg, iter, ifs, 0⟩] scope pos) spos) (S.setF i (E.comp (own.map (·.2)) fi g ft fe)) := fun St => by
  obtain ⟨wi, pi, ri⟩ := hi St
  refine ⟨_, ps_setLc (i := i) (own := own) (g := canG Γ (own.map (·.2)) g) (tt := canT Γ ft W0) (te := canE Γ fe W0) (St.calm hk) nd hy hyl hsw pi (blkOk_by ok) (fun s H C cl fp => (hg s H C cl fp).can (St.blk _ _ _ _ _)) (fun s H C cl fp => (ht s H C cl fp).can (St.blk _ _ _ _ _)) (fun s H C cl fp => (he s H C cl fp).can (St.blk _ _ _ _ _)) hs, fun M0 H0 σ H ρ Dn G h => ?_⟩
  refine comp_core (Q := fun x H1 => gName i x σ H1 Dn.nx) ri G ((lift_post G h).imp (Same.refl H) fun ds w p us H' h0 e h1 r => ?_)
  split at w
  · rename_i hl
    exact w _ _ (G.set_own hl e h0 h1 r)
  · exact (show False from w).elim
theorem ds_setLLc (i : Nat) (own : List (Str × Nat)) {y : Str} {py spos : Pos} (nd : X.N.Nodup) (hi : DC Γ k X W tg iter fi) (hg : InBlk X scope fun Y => DGw Γ (own.map (·.2)) k Y W0 tg g) (ht : InBlk X scope fun Y => DTs Γ k Y W0 ifs ft) (he : InBlk X scope fun Y => DE Γ k Y W0 elt fe)
    (hy : X.N[i]? = some y := by rfl) (hyl : X.env.scope.names.lookup y = some .local := by rfl) (hsw : swapsWith (.ListComp elt [⟨tg, iter, ifs, 0⟩] scope pos) (some (.Name y py)) spos.line X.env = pure true := by rfl)
    (ok : blkC X.N X.env.scope scope own = true := by rfl) (hk : 0 < k := by first | decide | omega) (hs : ∀ x, foldedSetIterable iter X.env x = pure x := by intro _; rfl) :
    DS Γ k X W (.Assign [.Name y py] (.ListComp elt [⟨tg, iter, ifs, 0⟩] scope pos) spos) (S.set i (E.lst (E.comp (own.map (·.2)) fi g ft fe))) := fun St => by
  obtain ⟨wi, pi, ri⟩ := hi St
  refine ⟨_, ps_setLc (i := i) (own := own) (g := canG Γ (own.map (·.2)) g) (tt := canT Γ ft W0) (te := canE Γ fe W0) (St.calm hk) nd hy hyl hsw pi (blkOk_by ok) (fun s H C cl fp => (hg s H C cl fp).can (St.blk _ _ _ _ _)) (fun s H C cl fp => (ht s H C cl fp).can (St.blk _ _ _ _ _)) (fun s H C cl fp => (he s H C cl fp).can (St.blk _ _ _ _ _)) hs, fun M0 H0 σ H ρ Dn G h => ?_⟩
  refine comp_core (Q := fun x H1 => gName i x σ H1 Dn.nx) ri G ((Post.bind (lift_post G h)).imp (Same.refl H) fun ds w p us H' h0 e h1 r => ?_)
  have w : PostS Γ M0 H0 W Dn (if i < ρ.length then .next (List.set ρ i (.val (.lst ds))) else .stuck) := w
  split at w
  · rename_i hl
    refine w _ _ (G.set_val hl e ?_)
    rw [Rp]
    exact ⟨p, us, rfl, .inl ⟨.inl h1, fun z => Mx.alive G z h0⟩, RpL.imp (.weak fun a z => .inl z) _ _ r⟩
  · exact (show False from w).elim
end
set_option Elab.async false
set_option linter.all false
set_option maxRecDepth 100000
set_option maxHeartbeats 4000000
/-! ### zip, enumerate, in -/
open PySem L2
/-- a list (else a tuple) that is no slot's own -/
def SqAt (Γ : Gam) (l : Bool) (M : Addr → Prop) (H : Hp) (p : Addr) (vs : List V) : Prop := if l = true then LstAt Γ M H p vs else TupAt Γ M H p vs
theorem SqAt.imp {Γ : Gam} {l : Bool} {M M' : Addr → Prop} {H H' : Hp} {p : Addr} {vs : List V} (k : Imp M M' H H') (h : SqAt Γ l M H p vs) : SqAt Γ l M' H' p vs := by
  unfold SqAt at h ⊢
  split
  · rename_i z; rw [if_pos z] at h; exact h.imp k
  · rename_i z; rw [if_neg z] at h; exact h.imp k
theorem SqAt.sq {Γ : Gam} {l : Bool} {M : Addr → Prop} {H : Hp} {p : Addr} {vs : List V} (h : SqAt Γ l M H p vs) : Sq Γ.K l H p vs := by
  unfold SqAt at h
  unfold Sq
  split
  · rename_i z; rw [if_pos z] at h; exact h.sq
  · rename_i z; rw [if_neg z] at h; exact h.sq
def WantK (Γ : Gam) (l : Bool) (M : Addr → Prop) (H : Hp) (Q : VK) (ds : List D) : Prop := ∀ p vs H', Same H H' → SqAt Γ l M H' p vs → RpL Γ M H' ds vs → Q (.ref p) H'
def DK (Γ : Gam) (k : Nat) (X : Cx) (W : WX) (l : Bool) (e : Expr) (f : Env → Res (List D)) : Prop := Sit Γ k X W → ∃ te : TE, PE X e te ∧
  ∀ M0 H0 σ H ρ Q, Gd Γ M0 H0 σ H ρ → Post Γ W σ H (f ρ) (WantK Γ l (Mx M0 σ ρ) H Q) → te σ H Q
section
variable {Γ : Gam} {k j : Nat} {X : Cx} {W : WX} {l : Bool}
theorem dk_lst {e : Expr} {f : Env → Res D} (h : DE Γ k X W e f) : DK Γ k X W true e (Z.lst f) := fun S => by
  obtain ⟨te, pe, r⟩ := h S
  refine ⟨te, pe, fun M0 H0 σ H ρ Q G h => r M0 H0 σ H ρ Q G ((Post.bind h).imp (Same.refl H) fun d w v H' e r => ?_)⟩
  cases d with
  | lst ds =>
    rw [Rp] at r
    obtain ⟨p, vs, rfl, t, r⟩ := r
    exact (show WantK Γ true _ H Q ds from w) p vs H' e (by unfold SqAt; rw [if_pos rfl]; exact t) r
  | _ => exact (show False from w).elim
theorem dk_tup {e : Expr} {f : Env → Res D} (h : DE Γ k X W e f) : DK Γ k X W false e (Z.tup f) := fun S => by
  obtain ⟨te, pe, r⟩ := h S
  refine ⟨te, pe, fun M0 H0 σ H ρ Q G h => r M0 H0 σ H ρ Q G ((Post.bind h).imp (Same.refl H) fun d w v H' e r => ?_)⟩
  cases d with
  | tup ds =>
    rw [Rp] at r
    obtain ⟨p, vs, rfl, t, r⟩ := r
    exact (show WantK Γ false _ H Q ds from w) p vs H' e (by unfold SqAt; rw [if_neg Bool.false_ne_true]; exact t) r
  | _ => exact (show False from w).elim
theorem dk_df {e : Expr} {f : Env → Res (List D)} (h : DF Γ k X W e f) : DK Γ k X W true e f := fun S => by
  obtain ⟨te, pe, r⟩ := h S
  refine ⟨te, pe, fun M0 H0 σ H ρ Q G h => r M0 H0 σ H ρ Q G (h.imp (Same.refl H) fun ds w p vs H' h0 e h1 r => ?_)⟩
  exact w p vs H' e (by unfold SqAt; rw [if_pos rfl]; exact .inl ⟨.inl h1, fun z => Mx.alive G z h0⟩) (RpL.imp (.weak fun a z => .inl z) _ _ r)
/-- the pairs of two walks -/
def pairs (xs ys : List D) : List D := List.zipWith (fun x y => D.tup [x, y]) xs ys
theorem pairs_length (xs ys : List D) : (pairs xs ys).length = min xs.length ys.length := List.length_zipWith
theorem pairs_get {xs ys : List D} {i : Nat} {x y : D} (h1 : xs[i]? = some x) (h2 : ys[i]? = some y) : (pairs xs ys)[i]? = some (.tup [x, y]) := by
  unfold pairs
  rw [List.getElem?_zipWith, h1, h2]
def Z.zip (f g : Env → Res (List D)) : Env → Res (List D) := fun ρ => (f ρ).bind fun xs => (g ρ).bind fun ys => .ok (pairs xs ys)
def ixs (n : Nat) : List D := (List.range n).map fun (i : Nat) => D.int (i : Int)
def Z.enum (f : Env → Res (List D)) : Env → Res (List D) := fun ρ => (f ρ).bind fun xs => .ok (pairs (ixs xs.length) xs)
theorem ixs_length (n : Nat) : (ixs n).length = n := by unfold ixs; rw [List.length_map, List.length_range]
theorem ixs_get {n i : Nat} (h : i < n) : (ixs n)[i]? = some (.int (i : Int)) := by
  unfold ixs
  rw [List.getElem?_map, List.getElem?_range h]
  rfl
theorem walk_zipT {K : PySem.W.Frag} {a b : Addr} {xs ys : List V} {n : Nat} (hn : n = min xs.length ys.length) : Walk (RZ.ItzT K a b) n (fun H => SqT K H a xs ∧ SqT K H b ys) (YPair (fun i => xs[i]?) (fun i => ys[i]?)) := by
  refine ⟨fun i _ hi q => ?_, fun _ q => ⟨xs, ys, q.1, q.2, by omega⟩, fun i H v H' hi q y => ?_⟩
  · have h1 : i < xs.length := by omega
    have h2 : i < ys.length := by omega
    exact ⟨xs, ys, xs[i], ys[i], q.1, q.2, List.getElem?_eq_getElem h1, List.getElem?_eq_getElem h2⟩
  · obtain ⟨T, x, z, h1, h2, h3, h4, h5⟩ := y
    exact ⟨T, x, z, h1, h2, h3, h4 xs q.1, h5 ys q.2⟩
/-- a new pair at a turn -/
theorem pair_item {M' : Addr → Prop} {H' H2 : Hp} {xs ys : List D} {us ws : List V} {i : Nat} {x : V} (al : ∀ a, M' a → H' a ≠ none) (r1 : RpL Γ M' H' xs us) (r2 : RpL Γ M' H' ys ws) (hi : i < (pairs xs ys).length) (y : YPair (fun i => us[i]?) (fun i => ws[i]?) i H' x H2) :
    Same H' H2 ∧ ∃ d, (pairs xs ys)[i]? = some d ∧ Rp Γ M' H2 d x := by
  obtain ⟨T, v, w, rfl, hT, rfl, e1, e2⟩ := y
  rw [pairs_length] at hi
  have l1 : i < xs.length := by omega
  have l2 : i < ys.length := by omega
  obtain ⟨v', e3, q1⟩ := r1.get (List.getElem?_eq_getElem l1)
  obtain ⟨w', e4, q2⟩ := r2.get (List.getElem?_eq_getElem l2)
  rw [show us[i]? = some v from e1] at e3
  rw [show ws[i]? = some w from e2] at e4
  cases e3
  cases e4
  have s : Same H' (upd H' T (.tup [v, w])) := fun a o h => by rw [upd_ne (ne_of_none h hT)]; exact h
  refine ⟨s, _, pairs_get (List.getElem?_eq_getElem l1) (List.getElem?_eq_getElem l2), ?_⟩
  rw [Rp]
  exact ⟨T, [v, w], rfl, .inl ⟨.inl upd_same, fun z => al T z hT⟩, .cons (q1.mono s) (.cons (q2.mono s) .nil)⟩
theorem zip_read {ta tb : TE} {fa fb : Env → Res (List D)}
    (ra : ∀ M0 H0 σ H ρ Q, Gd Γ M0 H0 σ H ρ → Post Γ W σ H (fa ρ) (WantK Γ l (Mx M0 σ ρ) H Q) → ta σ H Q)
    (rb : ∀ M0 H0 σ H ρ Q, Gd Γ M0 H0 σ H ρ → Post Γ W σ H (fb ρ) (WantK Γ l (Mx M0 σ ρ) H Q) → tb σ H Q)
    (hK : X.K = Γ.K) {M0 : Bd} {H0 : Hp} {σ : St} {H : Hp} {ρ : Env} {R : It → Hp → Prop} (G : Gd Γ M0 H0 σ H ρ) (h : Post Γ W σ H (Z.zip fa fb ρ) (WantI Γ (Mx M0 σ ρ) H R)) : RZ.iZipA X.K (tCons ta (tCons tb tNil)) σ H R := by
  refine ra M0 H0 σ H ρ _ G ((Post.bind h).imp (Same.refl H) fun xs w a us H1 e1 s1 r1 => ?_)
  have G1 := G.mono e1
  refine rb M0 H0 σ H1 ρ _ G1 ((Post.bind w).imp e1 fun ys w2 b ws H2 e2 s2 r2 => ?_)
  have w2 : WantI Γ (Mx M0 σ ρ) H R (pairs xs ys) := w2
  have s1 := s1.imp (.mono e2)
  have r1 := r1.mono e2
  have hl : (pairs xs ys).length = min us.length ws.length := by rw [pairs_length, r1.length, r2.length]
  refine ⟨a, b, us, ws, rfl, ?_⟩
  rw [hK]
  cases l with
  | true =>
    have q1 := s1.sq
    have q2 := s2.sq
    unfold Sq at q1 q2
    rw [if_pos rfl] at q1 q2
    refine .inl ⟨q1, q2, w2 _ H2 _ _ (e1.trans e2) (walk_zip hl) fun M' H' im al => ⟨?_, fun i x H3 hi y => pair_item al (RpL.imp im _ _ r1) (RpL.imp im _ _ r2) hi y⟩⟩
    have q1 := (s1.imp im).sq
    have q2 := (s2.imp im).sq
    unfold Sq at q1 q2
    rw [if_pos rfl] at q1 q2
    exact ⟨q1, q2⟩
  | false =>
    have q1 := s1.sq
    have q2 := s2.sq
    unfold Sq at q1 q2
    rw [if_neg Bool.false_ne_true] at q1 q2
    refine .inr ⟨q1, q2, w2 _ H2 _ _ (e1.trans e2) (walk_zipT hl) fun M' H' im al => ⟨?_, fun i x H3 hi y => pair_item al (RpL.imp im _ _ r1) (RpL.imp im _ _ r2) hi y⟩⟩
    have q1 := (s1.imp im).sq
    have q2 := (s2.imp im).sq
    unfold Sq at q1 q2
    rw [if_neg Bool.false_ne_true] at q1 q2
    exact ⟨q1, q2⟩
theorem di_zip {a b : Expr} {fa fb : Env → Res (List D)} {elts : List Expr} {kk : Nat} {p pos tpos : Pos} (ha : DK Γ k X W l a fa) (hb : DK Γ k X W l b fb) (hm : Γ.mg "zip" = none) (hg : Gl X "zip" := by rfl)
    (hs : starEach [a, b] X.env = (false, eval a X.env) :: starEach [b] X.env := by rfl) (hs2 : starEach [b] X.env = (false, eval b X.env) :: starEach [] X.env := by rfl) (hpl : (backTo pos (starEach [b] X.env)).any (·.1) = false := by rfl) :
    DI Γ k X W (.Tuple elts kk tpos) (.Call (.Name "zip" p) [a, b] [] pos) (Z.zip fa fb) := fun S => by
  obtain ⟨ta, pa, ra⟩ := ha S
  obtain ⟨tb, pb, rb⟩ := hb S
  exact ⟨_, RZ.pi_zipA hg (by rw [S.mg]; exact hm) (pa_cons pa (pa_cons pb pa_nil hs2) hs) hs hpl, fun M0 H0 σ H ρ R G h => zip_read ra rb S.K G h⟩
theorem di_enum {a : Expr} {fa : Env → Res (List D)} {elts : List Expr} {kk : Nat} {p pos tpos : Pos} (ha : DK Γ k X W true a fa) (hm : Γ.mg "enumerate" = none) (hg : Gl X "enumerate" := by rfl) (hs : starEach [a] X.env = [(false, eval a X.env)] := by rfl) :
    DI Γ k X W (.Tuple elts kk tpos) (.Call (.Name "enumerate" p) [a] [] pos) (Z.enum fa) := fun S => by
  obtain ⟨ta, pa, ra⟩ := ha S
  have hn : starEach [] X.env = [] := by rfl
  refine ⟨_, pi_enum hg (by rw [S.mg]; exact hm) (pa_cons pa pa_nil (by rw [hs, hn])) hs, fun M0 H0 σ H ρ R G h => ?_⟩
  refine ra M0 H0 σ H ρ _ G ((Post.bind h).imp (Same.refl H) fun xs w a us H1 e1 s1 r1 => ?_)
  have w : WantI Γ (Mx M0 σ ρ) H R (pairs (ixs xs.length) xs) := w
  have q1 := s1.sq
  unfold Sq at q1
  rw [if_pos rfl] at q1
  refine ⟨a, us, rfl, by rw [S.K]; exact q1, ?_⟩
  rw [S.K]
  have hl : (pairs (ixs xs.length) xs).length = us.length := by rw [pairs_length, ixs_length, r1.length]; omega
  refine w _ H1 _ _ e1 (by rw [hl]; exact walk_enum) fun M' H' im al => ⟨?_, fun i x H3 hi y => ?_⟩
  · have q1 := (s1.imp im).sq
    unfold Sq at q1
    rw [if_pos rfl] at q1
    exact q1
  · have rI : RpL Γ M' H' (ixs xs.length) ((List.range xs.length).map fun (i : Nat) => V.int (i : Int)) := by
      have go : ∀ l : List Nat, RpL Γ M' H' (l.map fun (i : Nat) => D.int (i : Int)) (l.map fun (i : Nat) => V.int (i : Int)) := fun l => by
        induction l with
        | nil => exact .nil
        | cons a r ih => exact .cons (by rw [Rp]) ih
      exact go _
    refine pair_item al rI (RpL.imp im _ _ r1) hi ?_
    obtain ⟨T, v, w, h1, h2, h3, h4, h5⟩ := y
    refine ⟨T, v, w, h1, h2, h3, ?_, h5⟩
    rw [hl] at hi
    rw [r1.length] at hi
    show (List.map _ _)[i]? = _
    rw [List.getElem?_map, List.getElem?_range hi]
    exact h4
/-- in a comprehension the slots' own lists may be walked, too -/
theorem WantC.sq {M : Addr → Prop} {H H1 : Hp} {R : It → Hp → Prop} {ds : List D} {J : It} {vs : List V} {G : Hp → Prop} (w : WantC Γ M H R ds) (e : Same H H1) (r : RpL Γ M H1 ds vs) (wk : Walk J vs.length G (YAt vs)) (hG : ∀ H', Same H1 H' → G H') : R J H1 := by
  rw [r.length] at wk
  refine w J H1 G _ e wk fun M' H' im sm _ => ⟨hG H' sm, fun i x H2 hi y => ?_⟩
  obtain ⟨e2, y⟩ := y
  subst e2
  obtain ⟨v, hv, rv⟩ := (RpL.imp im ds vs r).get (List.getElem?_eq_getElem hi)
  rw [y] at hv
  cases hv
  exact ⟨Same.refl _, _, List.getElem?_eq_getElem hi, rv⟩
theorem dc_list {tg e : Expr} {f : Env → Res (List D)} (h : DQ Γ k X W true e f) : DC Γ k X W tg e f := fun S => by
  obtain ⟨te, pe, r⟩ := h S
  refine ⟨_, pi_list pe, fun M0 H0 σ H ρ R G h => r M0 H0 σ H ρ _ G (h.imp (Same.refl H) fun ds w p vs H1 e1 sq r => ?_)⟩
  refine ⟨p, rfl, ⟨vs, by rw [S.K]; exact (by unfold Sq at sq; rw [if_pos rfl] at sq; exact sq)⟩, ?_⟩
  exact w.sq e1 r walk_list fun H' sm => by
    have sq := sq.mono sm
    unfold Sq at sq
    rw [if_pos rfl] at sq
    rw [S.K]
    exact sq
theorem dc_tuple {tg e : Expr} {f : Env → Res (List D)} (h : DQ Γ k X W false e f) : DC Γ k X W tg e f := fun S => by
  obtain ⟨te, pe, r⟩ := h S
  refine ⟨_, pi_tup pe, fun M0 H0 σ H ρ R G h => r M0 H0 σ H ρ _ G (h.imp (Same.refl H) fun ds w p vs H1 e1 sq r => ?_)⟩
  refine ⟨p, rfl, ⟨vs, by rw [S.K]; exact (by unfold Sq at sq; rw [if_neg Bool.false_ne_true] at sq; exact sq)⟩, ?_⟩
  exact w.sq e1 r walk_tup fun H' sm => by
    have sq := sq.mono sm
    unfold Sq at sq
    rw [if_neg Bool.false_ne_true] at sq
    rw [S.K]
    exact sq
/-- .. zip of such -/
theorem dc_zip {a b : Expr} {fa fb : Env → Res (List D)} {elts : List Expr} {kk : Nat} {p pos tpos : Pos} (ha : DQ Γ k X W l a fa) (hb : DQ Γ k X W l b fb) (hm : Γ.mg "zip" = none) (hg : Gl X "zip" := by rfl)
    (hs : starEach [a, b] X.env = (false, eval a X.env) :: starEach [b] X.env := by rfl) (hs2 : starEach [b] X.env = (false, eval b X.env) :: starEach [] X.env := by rfl) (hpl : (backTo pos (starEach [b] X.env)).any (·.1) = false := by rfl) :
    DC Γ k X W (.Tuple elts kk tpos) (.Call (.Name "zip" p) [a, b] [] pos) (Z.zip fa fb) := fun S => by
  obtain ⟨ta, pa, ra⟩ := ha S
  obtain ⟨tb, pb, rb⟩ := hb S
  refine ⟨_, RZ.pi_zipA hg (by rw [S.mg]; exact hm) (pa_cons pa (pa_cons pb pa_nil hs2) hs) hs hpl, fun M0 H0 σ H ρ R G h => ?_⟩
  refine ra M0 H0 σ H ρ _ G ((Post.bind h).imp (Same.refl H) fun xs w a us H1 e1 s1 r1 => ?_)
  have G1 := G.mono e1
  refine rb M0 H0 σ H1 ρ _ G1 ((Post.bind w).imp e1 fun ys w2 b ws H2 e2 s2 r2 => ?_)
  have w2 : WantC Γ (Mx M0 σ ρ) H R (pairs xs ys) := w2
  have s1 := s1.mono e2
  have r1 := r1.mono e2
  have hl : (pairs xs ys).length = min us.length ws.length := by rw [pairs_length, r1.length, r2.length]
  refine ⟨a, b, us, ws, rfl, ?_⟩
  rw [S.K]
  cases l with
  | true =>
    unfold Sq at s1 s2
    rw [if_pos rfl] at s1 s2
    refine .inl ⟨s1, s2, w2 _ H2 _ _ (e1.trans e2) (walk_zip hl) fun M' H' im sm al => ⟨⟨sm.seq s1, sm.seq s2⟩, fun i x H3 hi y => pair_item al (RpL.imp im _ _ r1) (RpL.imp im _ _ r2) hi y⟩⟩
  | false =>
    have q1 := fun H' (sm : Same H2 H') => s1.mono sm
    have q2 := fun H' (sm : Same H2 H') => s2.mono sm
    unfold Sq at s1 s2 q1 q2
    rw [if_neg Bool.false_ne_true] at s1 s2
    refine .inr ⟨s1, s2, w2 _ H2 _ _ (e1.trans e2) (walk_zipT hl) fun M' H' im sm al => ⟨⟨by have := q1 H' sm; rw [if_neg Bool.false_ne_true] at this; exact this, by have := q2 H' sm; rw [if_neg Bool.false_ne_true] at this; exact this⟩, fun i x H3 hi y => pair_item al (RpL.imp im _ _ r1) (RpL.imp im _ _ r2) hi y⟩⟩
/-! ### x in xs -/
def flatD : D → Bool
  | .non => true
  | .bl _ => true
  | .int _ => true
  | .str _ => true
  | _ => false
def toV : D → V
  | .bl b => .bl b
  | .int i => .int i
  | .str x => .str x
  | _ => .non
theorem rp_flat {M : Addr → Prop} {H : Hp} {d : D} {v : V} (f : flatD d = true) (r : Rp Γ M H d v) : v = toV d ∧ flatV v = true := by
  cases d <;> first | (rw [Rp] at r; subst r; exact ⟨rfl, rfl⟩) | cases f
theorem rpl_flat {M : Addr → Prop} {H : Hp} : ∀ {ds : List D} {vs : List V}, ds.all flatD = true → RpL Γ M H ds vs → vs = ds.map toV ∧ vs.all flatV = true
  | [], vs, _, r => by
    rw [RpL] at r
    subst r
    exact ⟨rfl, rfl⟩
  | d :: ds, vs, f, r => by
    rw [List.all_cons, Bool.and_eq_true] at f
    rw [RpL] at r
    obtain ⟨v, t, rfl, h1, h2⟩ := r
    obtain ⟨e1, e2⟩ := rp_flat f.1 h1
    obtain ⟨e3, e4⟩ := rpl_flat f.2 h2
    subst e1
    subst e3
    exact ⟨rfl, by rw [List.all_cons, e2, e4]; rfl⟩
/-- x in xs, flat -/
def E.inF (neg : Bool) (f : Env → Res D) (q : Env → Res (List D)) : Env → Res D := fun ρ => (f ρ).bind fun d => (q ρ).bind fun ds => if flatD d = true ∧ ds.all flatD = true then .ok (.bl (if neg then !inV (toV d) (ds.map toV) else inV (toV d) (ds.map toV))) else .stuck
theorem in_read {neg : Bool} {ta tb : TE} {f : Env → Res D} {q : Env → Res (List D)} (hK : X.K = Γ.K)
    (ra : ∀ M0 H0 σ H ρ Q, Gd Γ M0 H0 σ H ρ → Post Γ W σ H (f ρ) (WantE Γ (Mx M0 σ ρ) H Q) → ta σ H Q)
    (rb : ∀ M0 H0 σ H ρ Q, Gd Γ M0 H0 σ H ρ → Post Γ W σ H (q ρ) (WantQ Γ l (Mx M0 σ ρ) H Q) → tb σ H Q)
    {M0 : Bd} {H0 : Hp} {σ : St} {H : Hp} {ρ : Env} {Q : VK} (G : Gd Γ M0 H0 σ H ρ) (h : Post Γ W σ H (E.inF neg f q ρ) (WantE Γ (Mx M0 σ ρ) H Q)) : tOp (rIn X.K neg) ta tb σ H Q := by
  refine ra M0 H0 σ H ρ _ G ((Post.bind h).imp (Same.refl H) fun d w v H1 e1 r1 => ?_)
  have G1 := G.mono e1
  refine rb M0 H0 σ H1 ρ _ G1 ((Post.bind w).imp e1 fun ds w2 p us H2 e2 s2 r2 => ?_)
  split at w2
  · rename_i c
    obtain ⟨v1, v2⟩ := rp_flat c.1 r1
    obtain ⟨v3, v4⟩ := rpl_flat c.2 r2
    subst v1
    subst v3
    refine ⟨p, _, rfl, ?_, v2, v4, (show WantE Γ _ H Q _ from w2) _ H2 (e1.trans e2) (by rw [Rp])⟩
    rw [hK]
    unfold Sq at s2
    split at s2
    · exact .inl s2
    · exact .inr s2
  · exact (show False from w2).elim
theorem de_in {a b : Expr} {f : Env → Res D} {q : Env → Res (List D)} {pos : Pos} (ha : DE Γ k X W a f) (hb : DQ Γ k X W l b q) (hm : behindInMarks .In b = false := by rfl) : DE Γ k X W (.Compare a [.In] [b] pos) (E.inF false f q) := fun S => by
  obtain ⟨ta, pa, ra⟩ := ha S
  obtain ⟨tb, pb, rb⟩ := hb S
  exact ⟨_, pe_cmpR op_in_seq pa pb hm, fun M0 H0 σ H ρ Q G h => in_read S.K ra rb G h⟩
theorem de_notIn {a b : Expr} {f : Env → Res D} {q : Env → Res (List D)} {pos : Pos} (ha : DE Γ k X W a f) (hb : DQ Γ k X W l b q) (hm : behindInMarks .NotIn b = false := by rfl) : DE Γ k X W (.Compare a [.NotIn] [b] pos) (E.inF true f q) := fun S => by
  obtain ⟨ta, pa, ra⟩ := ha S
  obtain ⟨tb, pb, rb⟩ := hb S
  exact ⟨_, pe_cmpR op_notIn_seq pa pb hm, fun M0 H0 σ H ρ Q G h => in_read S.K ra rb G h⟩
theorem tst_read {t : TE} {f : Env → Res D} (r : ∀ M0 H0 σ H ρ Q, Gd Γ M0 H0 σ H ρ → Post Γ W σ H (f ρ) (WantE Γ (Mx M0 σ ρ) H Q) → t σ H Q)
    {M0 : Bd} {H0 : Hp} {σ : St} {H : Hp} {ρ : Env} {Q : Bool → Hp → Prop} (G : Gd Γ M0 H0 σ H ρ) (h : Post Γ W σ H (T.tst f ρ) (WantB H Q)) : tTest t σ H Q := by
  refine r M0 H0 σ H ρ _ G ((Post.bind h).imp (Same.refl H) fun d q1 v H1 e1 r1 => ?_)
  cases d with
  | bl b =>
    rw [Rp] at r1
    exact ⟨b, r1, (show WantB H Q b from q1) H1 e1⟩
  | _ => exact (show False from q1).elim
theorem dt_in {a b : Expr} {f : Env → Res D} {q : Env → Res (List D)} {pos : Pos} (ha : DE Γ k X W a f) (hb : DQ Γ k X W l b q) (hm : behindInMarks .In b = false := by rfl) : DT Γ k X W (.Compare a [.In] [b] pos) (T.tst (E.inF false f q)) := fun S => by
  obtain ⟨ta, pa, ra⟩ := ha S
  obtain ⟨tb, pb, rb⟩ := hb S
  exact ⟨_, pt_cmpR op_in_seq pa pb hm, fun M0 H0 σ H ρ Q G h => tst_read (fun M0 H0 σ H ρ Q G h => in_read S.K ra rb G h) G h⟩
theorem dt_notIn {a b : Expr} {f : Env → Res D} {q : Env → Res (List D)} {pos : Pos} (ha : DE Γ k X W a f) (hb : DQ Γ k X W l b q) (hm : behindInMarks .NotIn b = false := by rfl) : DT Γ k X W (.Compare a [.NotIn] [b] pos) (T.tst (E.inF true f q)) := fun S => by
  obtain ⟨ta, pa, ra⟩ := ha S
  obtain ⟨tb, pb, rb⟩ := hb S
  exact ⟨_, pt_cmpR op_notIn_seq pa pb hm, fun M0 H0 σ H ρ Q G h => tst_read (fun M0 H0 σ H ρ Q G h => in_read S.K ra rb G h) G h⟩
/-! ### x in a list of plain data -/
def anyP (p : PyData) (ps : List PyData) : Bool := ps.any fun z => PyData.eqv z p
def E.inP (neg : Bool) (f : Env → Res D) (q : Env → Res (List D)) : Env → Res D := fun ρ => (f ρ).bind fun d => (q ρ).bind fun ds => match toP d, toPs ds with
  | some p, some ps => if SeqAt.shaped p = true ∧ SeqAt.shaped (.list ps) = true then .ok (.bl (if neg then !anyP p ps else anyP p ps)) else .stuck
  | _, _ => .stuck
def rInP (K : PySem.W.Frag) (neg : Bool) : R2 := if neg then rNotInD K else rInD K
theorem inP_read {neg : Bool} {ta tb : TE} {f : Env → Res D} {q : Env → Res (List D)} (hK : X.K = Γ.K)
    (ra : ∀ M0 H0 σ H ρ Q, Gd Γ M0 H0 σ H ρ → Post Γ W σ H (f ρ) (WantE Γ (Mx M0 σ ρ) H Q) → ta σ H Q)
    (rb : ∀ M0 H0 σ H ρ Q, Gd Γ M0 H0 σ H ρ → Post Γ W σ H (q ρ) (WantQ Γ true (Mx M0 σ ρ) H Q) → tb σ H Q)
    {M0 : Bd} {H0 : Hp} {σ : St} {H : Hp} {ρ : Env} {Q : VK} (G : Gd Γ M0 H0 σ H ρ) (h : Post Γ W σ H (E.inP neg f q ρ) (WantE Γ (Mx M0 σ ρ) H Q)) : tOp (rInP X.K neg) ta tb σ H Q := by
  refine ra M0 H0 σ H ρ _ G ((Post.bind h).imp (Same.refl H) fun d w v H1 e1 r1 => ?_)
  have G1 := G.mono e1
  refine rb M0 H0 σ H1 ρ _ G1 ((Post.bind w).imp e1 fun ds w2 p us H2 e2 s2 r2 => ?_)
  cases q1 : toP d with
  | none => rw [q1] at w2; exact (show False from w2).elim
  | some pd =>
    cases q2 : toPs ds with
    | none => rw [q1, q2] at w2; exact (show False from w2).elim
    | some ps =>
      rw [q1, q2] at w2
      dsimp only at w2
      split at w2
      · rename_i c
        unfold Sq at s2
        rw [if_pos rfl] at s2
        have x1 := toP_dp d v pd q1 (r1.mono e2)
        have x2 : Dp Γ.K H2 (.ref p) (.list ps) := .lst s2 (toPs_dp ds us ps q2 r2)
        have fin := (show WantE Γ _ H Q _ from w2) _ H2 (e1.trans e2) (by rw [Rp])
        unfold rInP
        rw [hK]
        cases neg with
        | true => exact ⟨pd, ps, x1, x2, c.1, c.2, fin⟩
        | false => exact ⟨pd, ps, x1, x2, c.1, c.2, fin⟩
      · exact (show False from w2).elim
theorem or_inP {neg : Bool} (hu : X.A.units + 65 < cLine) : OpR X (compareOp (if neg then .NotIn else .In)) (rInP X.K neg) := by
  unfold rInP
  cases neg with
  | true => exact op_notInD hu
  | false => exact op_inD hu
theorem dt_inP {a b : Expr} {f : Env → Res D} {q : Env → Res (List D)} {pos : Pos} (ha : DE Γ (k + 1) X W a f) (hb : DQ Γ (k + 1) X W true b q) (hm : behindInMarks .In b = false := by rfl) : DT Γ (k + 1) X W (.Compare a [.In] [b] pos) (T.tst (E.inP false f q)) := fun S => by
  obtain ⟨ta, pa, ra⟩ := ha S
  obtain ⟨tb, pb, rb⟩ := hb S
  exact ⟨_, pt_cmpR (or_inP (neg := false) (by have := (S.room (Nat.succ_pos k)).un; omega)) pa pb hm, fun M0 H0 σ H ρ Q G h => tst_read (fun M0 H0 σ H ρ Q G h => inP_read S.K ra rb G h) G h⟩
theorem de_inP {a b : Expr} {f : Env → Res D} {q : Env → Res (List D)} {pos : Pos} (ha : DE Γ (k + 1) X W a f) (hb : DQ Γ (k + 1) X W true b q) (hm : behindInMarks .In b = false := by rfl) : DE Γ (k + 1) X W (.Compare a [.In] [b] pos) (E.inP false f q) := fun S => by
  obtain ⟨ta, pa, ra⟩ := ha S
  obtain ⟨tb, pb, rb⟩ := hb S
  exact ⟨_, pe_cmpR (or_inP (neg := false) (by have := (S.room (Nat.succ_pos k)).un; omega)) pa pb hm, fun M0 H0 σ H ρ Q G h => inP_read S.K ra rb G h⟩
end
set_option Elab.async false
set_option linter.all false
set_option maxRecDepth 100000
set_option maxHeartbeats 4000000
/-! ### defs that change the list that is their first argument -/
open PySem L2
def spM (Γ : Gam) (n : Nat) (g : List D → List D → Res (List D × D)) : Sp := fun vs H Q E => ∃ (M : Addr → Prop) (p : Addr) (r ws : List V) (es ds : List D), vs = .ref p :: r ∧ H p = some (.lst ws) ∧ ds.length = n ∧ (∀ a, M a → H a ≠ none) ∧ ¬ M p ∧
  RpL Γ (fun a => M a ∨ a = p) H es ws ∧ RpL Γ (fun a => M a ∨ a = p) H ds r ∧ match g es ds with
  | .ok (es', d) => ∀ v us H', SameBut p H H' → H' p = some (.lst us) → RpL Γ (fun a => M a ∨ a = p) H' es' us → Rp Γ (fun a => M a ∨ a = p) H' d v → Q v H'
  | _ => False
def runM (N n : Nat) (b : Env → Out) : List D → List D → Res (List D × D) := fun es ds => if ds.length = n then (match b (.par es :: enter (N - 1) ds) with
  | .retP es' d => .ok (es', d)
  | _ => .stuck) else .stuck
section
variable {Γ : Gam}
theorem gd_enterM {M : Addr → Prop} {H : Hp} {N : List Str} {y : Str} {es ds : List D} {ws vs : List V} {x : Addr} (hx : H x = some (.lst ws)) (hM : ∀ a, M a → H a ≠ none) (nx : ¬ M x) (re : RpL Γ (fun a => M a ∨ a = x) H es ws) (r : RpL Γ (fun a => M a ∨ a = x) H ds vs) (hl : ds.length ≤ N.length) :
    Gd Γ { M := M, x := x, dx := 0 } (hide H x) (L2.start (y :: N) (.ref x :: vs)) H (.par es :: enter N.length ds) := by
  have hv := r.length
  have e0 : L2.start (y :: N) (.ref x :: vs) = some (.ref x) :: L2.start N vs := by
    unfold L2.start
    simp
  rw [e0]
  have own : ∀ i p, OwnAt (some (V.ref x) :: L2.start N vs) (.par es :: enter N.length ds) i p → i = 0 ∧ p = x := fun i p ⟨d, h1, h2, h3⟩ => by
    cases i with
    | zero =>
      simp at h3
      exact ⟨rfl, h3.symm⟩
    | succ i =>
      have h1' : (enter N.length ds)[i]? = some d := by simpa using h1
      rcases enter_get h1' with e | ⟨d, _, e⟩
      · rw [e] at h2; cases h2
      · rw [e] at h2; cases h2
  have mx : ∀ a, Mx { M := M, x := x, dx := 0 } (some (V.ref x) :: L2.start N vs) (.par es :: enter N.length ds) a → M a ∨ a = x := fun a h => h.elim .inl fun ⟨i, z⟩ => .inr (own i a z).2
  refine ⟨?_, fun a o h => (hide_some h).2, fun a h => ?_, fun i d h => ?_, fun i p z => ?_, fun i j p z z' => by rw [(own i p z).1, (own j p z').1]⟩
  · unfold L2.start enter
    simp [hv]
  · rw [hide_ne (fun q => nx (by rw [← q]; exact h))]
    exact hM a h
  · cases i with
    | zero =>
      simp at h
      subst h
      exact ⟨ws, by simp, hx, RpL.imp (.weak mx) es ws re⟩
    | succ i =>
      have h1' : (enter N.length ds)[i]? = some d := by simpa using h
      rcases enter_get h1' with e | ⟨d', h1, e⟩
      · rw [e]; trivial
      · rw [e]
        obtain ⟨v, h2, h3⟩ := r.get h1
        refine ⟨v, ?_, Rp.imp (.weak mx) d' v h3⟩
        show (L2.start N vs)[i]? = _
        unfold L2.start
        rw [List.getElem?_append_left (by rw [List.length_map]; exact (List.getElem?_eq_some_iff.mp h2).1), List.getElem?_map, h2]
        rfl
  · rw [(own i p z).2]
    unfold hide
    rw [if_pos rfl]
variable {k n j : Nat} {N ps : List Str} {x qual : Str} {params : Arguments} {body : List Stmt} {scope : Scope} {dvs : List V} {kws : List (Str × V)} {f : Addr} {fd : FuncData} {b : Env → Out}
theorem fx_m {y : Str} (F : FunD Γ.K x qual params body scope dvs kws f fd) (S : FnScope (y :: N) ps scope) (T : Top Γ) (hp : ps.length = n + 1) (hn : n ≤ N.length) (hb : Body Γ k (y :: N) qual scope f body b) :
    Fx Γ (k + 1) f fd ps (spM Γ n (runM (N.length + 1) n b)) := by
  refine F.ok S (fun vs H Q E h => ?_) (fun cdv A outer s H vs Q E hr h => ?_)
  · obtain ⟨M, p, r, ws, es, ds, rfl, _, hl, _, _, _, r, _⟩ := h
    rw [List.length_cons, r.length, hl, hp]
  · obtain ⟨M, p, rs, ws, es, ds, rfl, hx, hl, hM, nx, re, r, w⟩ := h
    obtain ⟨ts, pt, run⟩ := hb cdv A outer s H E (sit_body T S hr)
    have G0 := gd_enterM (N := N) (y := y) hx hM nx re r (by omega)
    refine ⟨ts, pt, run { M := M, x := p, dx := 0 } (hide H p) _ H _ _ G0 ?_⟩
    have back : ∀ {H'}, Same (hide H p) H' → SameBut p H H' := fun e b o h1 h2 => e b o (by rw [hide_ne h1]; exact h2)
    unfold runM at w
    rw [if_pos hl, Nat.add_sub_cancel] at w
    cases q : b (.par es :: enter N.length ds) with
    | retP es' d =>
      rw [q] at w
      exact fun v us H' e h1 r1 r2 => w v us H' (back e) h1 r1 r2
    | stuck => rw [q] at w; exact w.elim
    | next ρ' => rw [q] at w; exact w.elim
    | ret d => rw [q] at w; exact w.elim
    | retF d => rw [q] at w; exact w.elim
    | exc y ρ' => rw [q] at w; exact w.elim
    | brk ρ' => rw [q] at w; exact w.elim
    | cnt ρ' => rw [q] at w; exact w.elim
structure CalX (Γ : Gam) (j : Nat) (f : Addr) (g : List D → List D → Res (List D × D)) : Prop where
  ex : ∃ (fd : FuncData) (ps : List Str) (n : Nat), Binds Γ.K fd ps [] ∧ Fx Γ j f fd ps (spM Γ n g) ∧ ∀ es as, as.length ≠ n → g es as = .stuck
theorem runM_len {N n : Nat} {b : Env → Out} (es ds : List D) (h : ds.length ≠ n) : runM N n b es ds = .stuck := by
  unfold runM
  rw [if_neg h]
theorem calX_mk {y : Str} (F : ∃ fd, FunD Γ.K x qual params body scope [] kws f fd) (Sc : FnScope (y :: N) ps scope) (T : Top Γ) (hb : Body Γ k (y :: N) qual scope f body b) (hB : BindN x qual params body scope ps) (hp : ps.length = n + 1 := by rfl) (hn : n ≤ N.length := by decide) : CalX Γ (k + 1) f (runM (N.length + 1) n b) := by
  obtain ⟨fd, F⟩ := F
  exact ⟨⟨fd, ps, n, F.bindsN hB, fx_m F Sc T hp hn hb, runM_len⟩⟩
end
namespace S
/-- the first argument's list as it is at the end, and the value -/
def retP (f : Env → Res D) : Env → Out := fun ρ => lift (f ρ) ρ fun d => match ρ[(0 : Nat)]? with
  | some (.par ds) => .retP ds d
  | _ => .stuck
def retPO (i : Nat) : Env → Out := fun ρ => match ρ[i]?, ρ[(0 : Nat)]? with
  | some (.own es), some (.par ds) => if i = 0 then .stuck else .retP ds (.lst es)
  | _, _ => .stuck
/-- x_j = f(x_i, ..), x_i is changed by it -/
def setM (j i : Nat) (g : List D → List D → Res (List D × D)) (fa : Env → Res (List D)) : Env → Out := fun ρ => match ρ[i]? with
  | some (.own es) => lift (fa ρ) ρ fun as => (match g es as with
    | .ok (es', d) => if j < ρ.length ∧ j ≠ i then .next (List.set (List.set ρ i (.own es')) j (.val d)) else .stuck
    | _ => .stuck)
  | _ => .stuck
def exprM (i : Nat) (g : List D → List D → Res (List D × D)) (fa : Env → Res (List D)) : Env → Out := fun ρ => match ρ[i]? with
  | some (.own es) => lift (fa ρ) ρ fun as => (match g es as with
    | .ok (es', _) => .next (List.set ρ i (.own es'))
    | _ => .stuck)
  | _ => .stuck
end S
section
variable {Γ : Gam} {k j : Nat} {X : Cx} {W : WX}
theorem ds_retP {e : Expr} {f : Env → Res D} {pos : Pos} (he : DE Γ k X W e f) : DS Γ k X W (.Return (some e) pos) (S.retP f) := fun St => by
  obtain ⟨te, pe, re⟩ := he St
  refine ⟨_, ps_ret pe, fun M0 H0 σ H ρ Dn G h => re M0 H0 σ H ρ _ G ((lift_post G h).imp (Same.refl H) fun d w v H1 e1 r => ?_)⟩
  have G1 := G.mono e1
  cases q : ρ[0]? with
  | none => rw [q] at w; exact (show False from w).elim
  | some c =>
    rw [q] at w
    cases c with
    | par ds =>
      obtain ⟨us, a1, a2, a3⟩ := G1.cel 0 _ q
      have sub : ∀ a, M0.M a ∨ a = M0.x → Mx M0 σ ρ a := fun a z => z.elim .inl fun z => .inr ⟨0, _, q, rfl, by rw [z]; exact a1⟩
      exact w v us H1 G1.ext a2 (RpL.imp (.weak sub) _ _ a3) (Rp.imp (.weak sub) d v r)
    | _ => exact (show False from w).elim
theorem ds_retPO (i : Nat) {x : Str} {p pos : Pos} (hN : X.N[i]? = some x := by rfl) (hv : Vis X.env.scope x := by first | exact Or.inl rfl | exact Or.inr (Or.inl rfl) | exact Or.inr (Or.inr rfl)) (hd : (x == ("__debug__" : Str)) = false := by decide)
    (hcd : (x == ("__classdict__" : Str)) = false := by decide) : DS Γ k X W (.Return (some (.Name x p)) pos) (S.retPO i) := fun St => by
  refine ⟨_, ps_ret (pe_var hN hv hd hcd), fun M0 H0 σ H ρ Dn G h => ?_⟩
  unfold S.retPO at h
  split at h
  · rename_i es ds q1 q2
    split at h
    · exact (show False from h).elim
    · rename_i hi
      obtain ⟨p, vs, b1, b2, b3⟩ := own_cell G q1
      obtain ⟨us, a1, a2, a3⟩ := G.cel 0 _ q2
      have sub : ∀ a, M0.M a ∨ a = M0.x → Mx M0 σ ρ a := fun a z => z.elim .inl fun z => .inr ⟨0, _, q2, rfl, by rw [z]; exact a1⟩
      refine ⟨.ref p, b1, h (.ref p) us H G.ext a2 (RpL.imp (.weak sub) _ _ a3) ?_⟩
      rw [Rp]
      refine ⟨p, vs, rfl, .inl ⟨.inl b2, fun z => ?_⟩, RpL.imp (.weak sub) _ _ b3⟩
      rcases z with z | z
      · exact G.m0 p z (G.new i p ⟨_, q1, rfl, b1⟩)
      · exact hi (G.inj i 0 p ⟨_, q1, rfl, b1⟩ ⟨_, q2, rfl, by rw [z]; exact a1⟩)
  · exact (show False from h).elim
/-- what a call hands on, that changes the list of the i-th slot -/
def RCalX (Γ : Gam) (W : WX) (i : Nat) (g : List D → List D → Res (List D × D)) : List V → St → Hp → VK → Prop := fun vs σ H Q => ∃ (M0 : Bd) (H0 : Hp) (ρ : Env) (p : Addr) (r : List V) (es as : List D), Gd Γ M0 H0 σ H ρ ∧ ρ[i]? = some (.own es) ∧ σ[i]? = some (some (.ref p)) ∧ vs = .ref p :: r ∧ RpL Γ (Mx M0 σ ρ) H as r ∧
  match g es as with
  | .ok (es', d) => ∀ v H', Gd Γ M0 H0 σ H' (List.set ρ i (.own es')) → Rp Γ (Mx M0 σ ρ) H' d v → Q v H'
  | _ => False
theorem CalX.run {f : Addr} {i : Nat} {g : List D → List D → Res (List D × D)} (C : CalX Γ j f g) (S : Sit Γ k X W) (hk : 0 < k) (hj : j ≤ k) {pins : List (Addr × Obj)} {σ : St} {H : Hp} {s : Shared} {Q : VK} {us : List Value} {vs : List V}
    (I : Inv X pins σ H s) (rv : Vals vs us) (h : RCalX Γ W i g vs σ H Q) : wpAny (model X.prog X.w) X.A (call (.ref f) us) (EP X pins σ Q) X.xe s := by
  obtain ⟨M0, H0, ρ, p, r, es, as, G, q, hs, rfl, ra, w⟩ := h
  obtain ⟨fd, ps, n, h2, h3, h5⟩ := C.ex
  have F : FnOk X.prog X.w X.K X.mg X.base (L2.CX X.prog X.w) j f fd ps (spM Γ n g) := by rw [S.P, S.w, S.K, S.mg, S.base]; exact h3
  refine run_fnSD (dvs := []) (ds := []) (E := WE W) F (S.room' hk hj) (by rw [S.K]; exact h2) .nil (passAt S.takes σ) I rv ?_
  rw [List.append_nil]
  obtain ⟨p', ws, a1, a2, a3⟩ := own_cell G q
  rw [hs] at a1
  cases a1
  have own : OwnAt σ ρ i p := ⟨_, q, rfl, hs⟩
  have sub : ∀ a, (Mx M0 σ ρ a ∧ a ≠ p) ∨ a = p → Mx M0 σ ρ a := fun a z => z.elim (fun z => z.1) fun z => by rw [z]; exact .inr ⟨i, own⟩
  have sup : ∀ a, Mx M0 σ ρ a → (Mx M0 σ ρ a ∧ a ≠ p) ∨ a = p := fun a z => by
    by_cases e : a = p
    · exact .inr e
    · exact .inl ⟨z, e⟩
  have hl : as.length = n := Decidable.byContradiction fun z => by rw [h5 es as z] at w; exact w
  refine ⟨fun a => Mx M0 σ ρ a ∧ a ≠ p, p, r, ws, es, as, rfl, a2, hl, fun a z => Mx.alive G z.1, fun z => z.2 rfl, RpL.imp (.weak sub) _ _ a3, RpL.imp (.weak sub) _ _ ra, ?_⟩
  split
  · rename_i es' d z
    rw [z] at w
    intro v ws' H' sb hp r1 r2
    exact w v H' (G.mutS q (.inl ⟨es, rfl, rfl⟩) hs (fun b o h1 h2 => sb b o h1 h2) hp (RpL.imp (.weak sup) _ _ r1)) (Rp.imp (.weak sup) d v r2)
  · rename_i z
    revert w
    cases y : g es as with
    | ok a => exact fun _ => z a.1 a.2 y
    | stuck => exact id
    | exc x => exact id
variable {x y : Str} {p p2 pos : Pos} {es : List Expr} {f : Addr} {fa : Env → Res (List D)} {g : List D → List D → Res (List D × D)}
theorem pe_calX (i : Nat) (N : Glo Γ x f) (C : CalX Γ j f g) (S : Sit Γ k X W) {ta : TA} (pa : PA X es ta) (hg : Gl X x) (hk : 0 < k) (hj : j ≤ k) (hN : X.N[i]? = some y) (hv : Vis X.env.scope y) (hd : (y == ("__debug__" : Str)) = false) (hcd : (y == ("__classdict__" : Str)) = false)
    (hdb : (x == ("__debug__" : Str)) = false) (hst : starEach (.Name y p2 :: es) X.env = (false, eval (.Name y p2) X.env) :: starEach es X.env) (hpl : (backTo pos (starEach es X.env)).any (·.1) = false) :
    PE X (.Call (.Name x p) (.Name y p2 :: es) [] pos) (fun σ H Q => ∃ u, σ[i]? = some (some u) ∧ ta σ H fun vs H1 => RCalX Γ W i g (u :: vs) σ H1 Q) := by
  have z := pe_calV (r := RCalX Γ W i g) (p := p) (pos := pos) hg (by rw [S.mg]; exact N.mg) (by rw [S.K]; exact N.kp) (pa_cons (pe_var (pos := p2) hN hv hd hcd) pa hst) (fun pins s σ H Q us vs I rv h => C.run S hk hj I rv h) hdb hst hpl
  exact ⟨fun pins s σ H Q I h => z.run pins s σ H Q I h⟩
theorem callX_read {i : Nat} {ta : TA} (ra : ∀ M0 H0 σ H ρ Q, Gd Γ M0 H0 σ H ρ → Post Γ W σ H (fa ρ) (WantA Γ (Mx M0 σ ρ) H Q) → ta σ H Q)
    {M0 : Bd} {H0 : Hp} {σ : St} {H : Hp} {ρ : Env} {es : List D} (G : Gd Γ M0 H0 σ H ρ) (q : ρ[i]? = some (.own es)) {Q : VK} {o : Res (List D)} (ho : fa ρ = o) (h : Post Γ W σ H o fun as => match g es as with
      | .ok (es', d) => ∀ v H', Gd Γ M0 H0 σ H' (List.set ρ i (.own es')) → Rp Γ (Mx M0 σ ρ) H' d v → Q v H'
      | _ => False) : ∃ u, σ[i]? = some (some u) ∧ ta σ H fun vs H1 => RCalX Γ W i g (u :: vs) σ H1 Q := by
  subst ho
  obtain ⟨p, ws, a1, a2, a3⟩ := own_cell G q
  refine ⟨.ref p, a1, ra M0 H0 σ H ρ _ G (h.imp (Same.refl H) fun as w vs H1 e1 r1 => ?_)⟩
  exact ⟨M0, H0, ρ, p, vs, es, as, G.mono e1, q, a1, rfl, r1, w⟩
theorem ds_setM (m i : Nat) {z : Str} {px spos : Pos} (nd : X.N.Nodup) (N : Glo Γ x f) (C : CalX Γ j f g) (ha : DA Γ k X W es fa) (hg : Gl X x := by rfl) (hk : 0 < k := by first | decide | omega) (hj : j ≤ k := by first | decide | omega) (hN : X.N[i]? = some y := by rfl)
    (hv : Vis X.env.scope y := by first | exact Or.inl rfl | exact Or.inr (Or.inl rfl) | exact Or.inr (Or.inr rfl)) (hd : (y == ("__debug__" : Str)) = false := by decide) (hcd : (y == ("__classdict__" : Str)) = false := by decide)
    (hdb : (x == ("__debug__" : Str)) = false := by decide) (hst : starEach (.Name y p2 :: es) X.env = (false, eval (.Name y p2) X.env) :: starEach es X.env := by rfl) (hpl : (backTo pos (starEach es X.env)).any (·.1) = false := by rfl)
    (hNm : X.N[m]? = some z := by rfl) (hx : Loc X.env.scope z := by first | exact Or.inl rfl | exact Or.inr rfl) (hs : swapsWith (.Call (.Name x p) (.Name y p2 :: es) [] pos) (some (.Name z px)) spos.line X.env = pure false := by rfl)
    (hf : X.fn z = true ∨ X.env.scope.names.lookup z = some .local := by first | exact .inl rfl | exact .inr rfl) : DS Γ k X W (.Assign [.Name z px] (.Call (.Name x p) (.Name y p2 :: es) [] pos) spos) (S.setM m i g fa) := fun St => by
  obtain ⟨ta, pa, ra⟩ := ha St
  refine ⟨_, ps_set (i := m) nd hNm hx (pe_calX i N C St pa hg hk hj hN hv hd hcd hdb hst hpl) hs hf, fun M0 H0 σ H ρ Dn G h => ?_⟩
  unfold S.setM at h
  cases q : ρ[i]? with
  | none => rw [q] at h; exact h.elim
  | some c =>
    rw [q] at h
    cases c with
    | own es =>
      refine callX_read ra G q rfl ((lift_post G h).imp (Same.refl H) fun as w => ?_)
      cases zg : g es as with
      | stuck => rw [zg] at w; exact (show False from w).elim
      | exc x => rw [zg] at w; exact (show False from w).elim
      | ok a =>
        rw [zg] at w
        obtain ⟨es', d⟩ := a
        intro v H' G' r
        dsimp only at w
        split at w
        · rename_i c
          refine w _ _ (G'.set_val (by rw [List.length_set]; exact c.1) (Same.refl H') (Rp.imp (.weak fun a y => ?_) d v r))
          rcases y with y | ⟨n, c, y1, y2, y3⟩
          · exact .inl y
          · by_cases en : i = n
            · subst en
              exact .inr ⟨i, _, q, rfl, y3⟩
            · rw [List.getElem?_set_ne en] at y1
              exact .inr ⟨n, c, y1, y2, y3⟩
        · exact (show False from w).elim
    | _ => exact (show False from h).elim
theorem ds_exprM (i : Nat) {spos : Pos} (N : Glo Γ x f) (C : CalX Γ j f g) (ha : DA Γ k X W es fa) (hg : Gl X x := by rfl) (hk : 0 < k := by first | decide | omega) (hj : j ≤ k := by first | decide | omega) (hN : X.N[i]? = some y := by rfl)
    (hv : Vis X.env.scope y := by first | exact Or.inl rfl | exact Or.inr (Or.inl rfl) | exact Or.inr (Or.inr rfl)) (hd : (y == ("__debug__" : Str)) = false := by decide) (hcd : (y == ("__classdict__" : Str)) = false := by decide)
    (hdb : (x == ("__debug__" : Str)) = false := by decide) (hst : starEach (.Name y p2 :: es) X.env = (false, eval (.Name y p2) X.env) :: starEach es X.env := by rfl) (hpl : (backTo pos (starEach es X.env)).any (·.1) = false := by rfl)
    (hs : swapsWith (.Call (.Name x p) (.Name y p2 :: es) [] pos) none spos.line X.env = pure false := by rfl) : DS Γ k X W (.Expr (.Call (.Name x p) (.Name y p2 :: es) [] pos) spos) (S.exprM i g fa) := fun St => by
  obtain ⟨ta, pa, ra⟩ := ha St
  refine ⟨_, ps_expr (pe_calX i N C St pa hg hk hj hN hv hd hcd hdb hst hpl) hs, fun M0 H0 σ H ρ Dn G h => ?_⟩
  unfold S.exprM at h
  cases q : ρ[i]? with
  | none => rw [q] at h; exact h.elim
  | some c =>
    rw [q] at h
    cases c with
    | own es =>
      refine callX_read ra G q rfl ((lift_post G h).imp (Same.refl H) fun as w => ?_)
      cases zg : g es as with
      | stuck => rw [zg] at w; exact (show False from w).elim
      | exc x => rw [zg] at w; exact (show False from w).elim
      | ok a =>
        rw [zg] at w
        obtain ⟨es', d⟩ := a
        exact fun v H' G' r => (show PostS Γ M0 H0 W Dn (.next _) from w) _ _ G'
    | _ => exact (show False from h).elim
end
set_option Elab.async false
set_option linter.all false
set_option maxRecDepth 100000
set_option maxHeartbeats 4000000
/-! ### lists or tuples, joins, is of bools -/
open PySem L2
def WantY (Γ : Gam) (M : Addr → Prop) (H : Hp) (Q : VK) (ds : List D) : Prop := ∀ p vs H', Same H H' → SqL Γ.K H' p vs ∨ SqT Γ.K H' p vs → RpL Γ M H' ds vs → Q (.ref p) H'
def DY (Γ : Gam) (k : Nat) (X : Cx) (W : WX) (e : Expr) (f : Env → Res (List D)) : Prop := Sit Γ k X W → ∃ te : TE, PE X e te ∧
  ∀ M0 H0 σ H ρ Q, Gd Γ M0 H0 σ H ρ → Post Γ W σ H (f ρ) (WantY Γ (Mx M0 σ ρ) H Q) → te σ H Q
section
variable {Γ : Gam} {k j : Nat} {X : Cx} {W : WX} {l : Bool}
theorem dy_seq {e : Expr} {f : Env → Res D} (h : DE Γ k X W e f) : DY Γ k X W e (Z.seq f) := fun S => by
  obtain ⟨te, pe, r⟩ := h S
  refine ⟨te, pe, fun M0 H0 σ H ρ Q G h => r M0 H0 σ H ρ Q G ((Post.bind h).imp (Same.refl H) fun d w v H' e r => ?_)⟩
  cases d with
  | lst ds =>
    rw [Rp] at r
    obtain ⟨p, vs, rfl, t, r⟩ := r
    exact (show WantY Γ _ H Q ds from w) p vs H' e (.inl t.sq) r
  | tup ds =>
    rw [Rp] at r
    obtain ⟨p, vs, rfl, t, r⟩ := r
    exact (show WantY Γ _ H Q ds from w) p vs H' e (.inr t.sq) r
  | _ => exact (show False from w).elim
theorem dy_dq {e : Expr} {f : Env → Res (List D)} (h : DQ Γ k X W l e f) : DY Γ k X W e f := fun S => by
  obtain ⟨te, pe, r⟩ := h S
  refine ⟨te, pe, fun M0 H0 σ H ρ Q G h => r M0 H0 σ H ρ Q G (h.imp (Same.refl H) fun ds w p vs H' e sq r => w p vs H' e ?_ r)⟩
  unfold Sq at sq
  split at sq
  · exact .inl sq
  · exact .inr sq
theorem de_ixY {a b : Expr} {q : Env → Res (List D)} {f : Env → Res D} {pos : Pos} (ha : DY Γ k X W a q) (hb : DE Γ k X W b f) (hs : PlainIx b := by intro _ _; rfl) : DE Γ k X W (.Subscript a b pos) (E.ix q f) := fun S => by
  obtain ⟨ta, pa, ra⟩ := ha S
  obtain ⟨tb, pb, rb⟩ := hb S
  refine ⟨_, pe_ix ix_seq pa pb hs, fun M0 H0 σ H ρ Q G h => ?_⟩
  refine ra M0 H0 σ H ρ _ G ((Post.bind h).imp (Same.refl H) fun ds w p vs H1 e1 sq r => ?_)
  have G1 := G.mono e1
  refine rb M0 H0 σ H1 ρ _ G1 ((Post.bind w).imp e1 fun d w2 v H2 e2 r2 => ?_)
  cases d with
  | int i =>
    rw [Rp] at r2
    subst r2
    cases z : L2.atI ds i with
    | none =>
      dsimp only at w2
      rw [z] at w2
      exact w2.elim
    | some d =>
      dsimp only at w2
      rw [z] at w2
      obtain ⟨u, h1, h2⟩ := (r.mono e2).atI z
      have fin := (show WantE Γ _ H Q d from w2) u H2 (e1.trans e2) h2
      rcases sq with sq | sq
      · exact .inl ⟨p, vs, i, u, rfl, rfl, by rw [S.K]; exact e2.seq sq, h1, fin⟩
      · refine .inr (.inl ⟨p, vs, i, u, rfl, rfl, ?_, h1, fin⟩)
        rw [S.K]
        rcases sq with (h | ⟨o, h⟩) | h
        · exact .inl (.inl (e2 _ _ h))
        · exact .inl (.inr ⟨o, e2 _ _ h⟩)
        · exact .inr h
  | _ => exact (show False from w2).elim
theorem de_lenY {e : Expr} {q : Env → Res (List D)} {p pos : Pos} (ha : DY Γ k X W e q) (hm : Γ.mg "len" = none) (hg : Gl X "len" := by rfl) (hst : starEach [e] X.env = (false, eval e X.env) :: starEach [] X.env := by rfl)
    (hpl : (backTo pos (starEach [] X.env)).any (·.1) = false := by rfl) : DE Γ k X W (.Call (.Name "len" p) [e] [] pos) (E.len q) := fun S => by
  obtain ⟨ta, pa, ra⟩ := ha S
  refine ⟨_, pe_callB call_len_seq hg (by rw [S.mg]; exact hm) PySem.boot_len (pa_cons pa pa_nil hst) (he := hst) (hpl := hpl), fun M0 H0 σ H ρ Q G h => ?_⟩
  refine ra M0 H0 σ H ρ _ G ((Post.bind h).imp (Same.refl H) fun ds w p vs H1 e1 sq r => ?_)
  refine ⟨p, vs, rfl, by rw [S.K]; exact sq, (show WantE Γ _ H Q _ from w) _ H1 e1 (by rw [Rp, r.length])⟩
theorem df_listY {e : Expr} {q : Env → Res (List D)} {p pos : Pos} (ha : DY Γ k X W e q) (hm : Γ.mg "list" = none) (hg : Gl X "list" := by rfl) (hst : starEach [e] X.env = (false, eval e X.env) :: starEach [] X.env := by rfl) (hpl : (backTo pos (starEach [] X.env)).any (·.1) = false := by rfl) : DF Γ k X W (.Call (.Name "list" p) [e] [] pos) q := fun S => by
  obtain ⟨ta, pa, ra⟩ := ha S
  refine ⟨_, pe_callTy call_list_of hg (by rw [S.mg]; exact hm) (by decide +kernel) (pa_cons pa pa_nil hst) (he := hst) (hpl := hpl), fun M0 H0 σ H ρ Q G h => ?_⟩
  refine ra M0 H0 σ H ρ _ G (h.imp (Same.refl H) fun ds w p vs H1 e1 sq r => ?_)
  exact ⟨p, vs, rfl, by rw [S.K]; exact sq, fun b hb => new_lst w e1 r hb⟩
theorem de_tupleY {e : Expr} {f : Env → Res D} {p pos : Pos} (ha : DE Γ k X W e f) (hm : Γ.mg "tuple" = none) (hg : Gl X "tuple" := by rfl) (hst : starEach [e] X.env = (false, eval e X.env) :: starEach [] X.env := by rfl) (hpl : (backTo pos (starEach [] X.env)).any (·.1) = false := by rfl) : DE Γ k X W (.Call (.Name "tuple" p) [e] [] pos) (E.asTup (Z.seq f)) := fun S => by
  obtain ⟨ta, pa, ra⟩ := ha S
  refine ⟨_, pe_callTy call_tuple_of hg (by rw [S.mg]; exact hm) (by decide +kernel) (pa_cons pa pa_nil hst) (he := hst) (hpl := hpl), fun M0 H0 σ H ρ Q G h => ?_⟩
  refine ra M0 H0 σ H ρ _ G ((Post.bind (Post.bind h)).imp (Same.refl H) fun d w v H1 e1 r => ?_)
  cases d with
  | tup ds =>
    have r' := r
    rw [Rp] at r'
    obtain ⟨p, vs, rfl, t, _⟩ := r'
    exact ⟨p, vs, rfl, .inr ⟨by rw [S.K]; exact t.sq, (show WantE Γ _ H Q _ from w) _ H1 e1 r⟩⟩
  | lst ds =>
    rw [Rp] at r
    obtain ⟨p, vs, rfl, t, r⟩ := r
    refine ⟨p, vs, rfl, .inl ⟨by rw [S.K]; exact t.sq, fun b hb => ?_⟩⟩
    have s : Same H1 (upd H1 b (.tup vs)) := fun a o h => by rw [upd_ne (ne_of_none h hb)]; exact h
    refine (show WantE Γ _ H Q (.tup ds) from w) _ _ (e1.trans s) ?_
    rw [Rp]
    exact ⟨b, vs, rfl, .inl ⟨.inl upd_same, fun z => Mx.alive (G.mono e1) z hb⟩, r.mono s⟩
  | _ => exact (show False from w).elim
/-! ### dynamic kinds -/
theorem inY_read {neg : Bool} {ta tb : TE} {f : Env → Res D} {q : Env → Res (List D)} (hK : X.K = Γ.K)
    (ra : ∀ M0 H0 σ H ρ Q, Gd Γ M0 H0 σ H ρ → Post Γ W σ H (f ρ) (WantE Γ (Mx M0 σ ρ) H Q) → ta σ H Q)
    (rb : ∀ M0 H0 σ H ρ Q, Gd Γ M0 H0 σ H ρ → Post Γ W σ H (q ρ) (WantY Γ (Mx M0 σ ρ) H Q) → tb σ H Q)
    {M0 : Bd} {H0 : Hp} {σ : St} {H : Hp} {ρ : Env} {Q : VK} (G : Gd Γ M0 H0 σ H ρ) (h : Post Γ W σ H (E.inF neg f q ρ) (WantE Γ (Mx M0 σ ρ) H Q)) : tOp (rIn X.K neg) ta tb σ H Q := by
  refine ra M0 H0 σ H ρ _ G ((Post.bind h).imp (Same.refl H) fun d w v H1 e1 r1 => ?_)
  have G1 := G.mono e1
  refine rb M0 H0 σ H1 ρ _ G1 ((Post.bind w).imp e1 fun ds w2 p us H2 e2 s2 r2 => ?_)
  split at w2
  · rename_i c
    obtain ⟨v1, v2⟩ := rp_flat c.1 r1
    obtain ⟨v3, v4⟩ := rpl_flat c.2 r2
    subst v1
    subst v3
    exact ⟨p, _, rfl, by rw [hK]; exact s2, v2, v4, (show WantE Γ _ H Q _ from w2) _ H2 (e1.trans e2) (by rw [Rp])⟩
  · exact (show False from w2).elim
variable {a b : Expr} {f : Env → Res D} {q : Env → Res (List D)} {pos : Pos}
theorem de_inY (ha : DE Γ k X W a f) (hb : DY Γ k X W b q) (hm : behindInMarks .In b = false := by rfl) : DE Γ k X W (.Compare a [.In] [b] pos) (E.inF false f q) := fun S => by
  obtain ⟨ta, pa, ra⟩ := ha S
  obtain ⟨tb, pb, rb⟩ := hb S
  exact ⟨_, pe_cmpR op_in_seq pa pb hm, fun M0 H0 σ H ρ Q G h => inY_read S.K ra rb G h⟩
theorem de_notInY (ha : DE Γ k X W a f) (hb : DY Γ k X W b q) (hm : behindInMarks .NotIn b = false := by rfl) : DE Γ k X W (.Compare a [.NotIn] [b] pos) (E.inF true f q) := fun S => by
  obtain ⟨ta, pa, ra⟩ := ha S
  obtain ⟨tb, pb, rb⟩ := hb S
  exact ⟨_, pe_cmpR op_notIn_seq pa pb hm, fun M0 H0 σ H ρ Q G h => inY_read S.K ra rb G h⟩
theorem dt_inY (ha : DE Γ k X W a f) (hb : DY Γ k X W b q) (hm : behindInMarks .In b = false := by rfl) : DT Γ k X W (.Compare a [.In] [b] pos) (T.tst (E.inF false f q)) := fun S => by
  obtain ⟨ta, pa, ra⟩ := ha S
  obtain ⟨tb, pb, rb⟩ := hb S
  exact ⟨_, pt_cmpR op_in_seq pa pb hm, fun M0 H0 σ H ρ Q G h => tst_read (fun M0 H0 σ H ρ Q G h => inY_read S.K ra rb G h) G h⟩
theorem dt_notInY (ha : DE Γ k X W a f) (hb : DY Γ k X W b q) (hm : behindInMarks .NotIn b = false := by rfl) : DT Γ k X W (.Compare a [.NotIn] [b] pos) (T.tst (E.inF true f q)) := fun S => by
  obtain ⟨ta, pa, ra⟩ := ha S
  obtain ⟨tb, pb, rb⟩ := hb S
  exact ⟨_, pt_cmpR op_notIn_seq pa pb hm, fun M0 H0 σ H ρ Q G h => tst_read (fun M0 H0 σ H ρ Q G h => inY_read S.K ra rb G h) G h⟩
/-! ### tuple + tuple, list * int -/
def catT : D → D → Res D
  | .tup xs, .tup ys => if xs.length + ys.length ≤ sizeLine then .ok (.tup (xs ++ ys)) else .stuck
  | _, _ => .stuck
theorem catT_n (x y z) : catT x y ≠ .exc z := by
  unfold catT
  split
  · split <;> exact fun q => nomatch q
  · exact fun q => nomatch q
theorem rpl_nil {M : Addr → Prop} {H : Hp} {ds : List D} {vs : List V} (r : RpL Γ M H ds vs) : vs = [] ↔ ds = [] := by
  have := r.length
  constructor
  · intro h; rw [h] at this; exact List.length_eq_zero_iff.mp this.symm
  · intro h; rw [h] at this; exact List.length_eq_zero_iff.mp this
theorem od_catT : OpD Γ k X W (binaryOp .Add) catT := fun S => by
  refine ⟨_, op_catA, fun M H x y a b Q m r1 r2 h => ?_⟩
  cases a <;> cases b <;> first | exact (show False from h).elim | skip
  rename_i xs ys
  unfold catT at h
  dsimp only at h
  split at h
  · rename_i hl
    have h : WantE Γ M H Q (.tup (xs ++ ys)) := h
    have r1' := r1
    have r2' := r2
    rw [Rp] at r1' r2'
    obtain ⟨p, us, rfl, t1, q1⟩ := r1'
    obtain ⟨p2, ws, rfl, t2, q2⟩ := r2'
    refine ⟨p, p2, us, ws, rfl, rfl, by rw [S.K]; exact t1.sq, by rw [S.K]; exact t2.sq, by rw [q1.length, q2.length]; exact hl, fun e => ?_, fun e1 e2 => ?_, fun e1 e2 b hb => ?_⟩
    · have e := (rpl_nil q1).mp e
      subst e
      exact h _ H (Same.refl H) (by rw [List.nil_append]; exact r2)
    · have e := (rpl_nil q2).mp e2
      subst e
      exact h _ H (Same.refl H) (by rw [List.append_nil]; exact r1)
    · have s : Same H (upd H b (.tup (us ++ ws))) := fun a o h => by rw [upd_ne (ne_of_none h hb)]; exact h
      refine h _ _ s ?_
      rw [Rp]
      exact ⟨b, us ++ ws, rfl, .inl ⟨.inl upd_same, fun z => m b z hb⟩, (q1.mono s).append (q2.mono s)⟩
  · exact (show False from h).elim
def E.rep (f : Env → Res (List D)) (g : Env → Res D) : Env → Res (List D) := fun ρ => (f ρ).bind fun xs => (g ρ).bind fun n => match n with
  | .int n => if n < 1000000 ∧ -1000000 < n ∧ xs.length * n.toNat ≤ sizeLine then .ok (List.replicate n.toNat xs).flatten else .stuck
  | _ => .stuck
theorem rpl_rep {M : Addr → Prop} {H : Hp} {ds : List D} {vs : List V} (r : RpL Γ M H ds vs) : ∀ n : Nat, RpL Γ M H (List.replicate n ds).flatten (List.replicate n vs).flatten
  | 0 => .nil
  | n + 1 => by
    rw [List.replicate_succ, List.replicate_succ, List.flatten_cons, List.flatten_cons]
    exact r.append (rpl_rep r n)
theorem df_rep {a b : Expr} {f : Env → Res (List D)} {g : Env → Res D} {pos : Pos} (ha : DL Γ k X W a f) (hb : DE Γ k X W b g) : DF Γ k X W (.BinOp a .Mult b pos) (E.rep f g) := fun S => by
  obtain ⟨ta, pa, ra⟩ := ha S
  obtain ⟨tb, pb, rb⟩ := hb S
  refine ⟨_, pe_op op_rep pa pb, fun M0 H0 σ H ρ Q G h => ?_⟩
  refine ra M0 H0 σ H ρ _ G ((Post.bind h).imp (Same.refl H) fun xs w p vs H1 e1 h1 r => ?_)
  refine rb M0 H0 σ H1 ρ _ (G.mono e1) ((Post.bind w).imp e1 fun d w2 v H2 e2 r2 => ?_)
  cases d with
  | int n =>
    rw [Rp] at r2
    subst r2
    dsimp only at w2
    split at w2
    · rename_i hl
      exact ⟨p, n, vs, rfl, rfl, e2 _ _ h1, by omega, by omega, by rw [r.length]; exact hl.2.2, fun b hb => new_lst w2 (e1.trans e2) (rpl_rep (r.mono e2) _) hb⟩
    · exact (show False from w2).elim
  | _ => exact (show False from w2).elim
/-! ### is True -/
def isB : D → D → Res D
  | .bl a, .bl b => .ok (.bl (decide (a = b)))
  | _, _ => .stuck
def notB : D → D → Res D
  | .bl a, .bl b => .ok (.bl (!decide (a = b)))
  | _, _ => .stuck
theorem isB_n (x y z) : isB x y ≠ .exc z := by cases x <;> cases y <;> exact fun q => nomatch q
theorem notB_n (x y z) : notB x y ≠ .exc z := by cases x <;> cases y <;> exact fun q => nomatch q
theorem od_isB : OpD Γ k X W (compareOp .Is) isB := fun S => by
  refine ⟨_, op_isBl, fun M H x y a b Q m r1 r2 h => ?_⟩
  cases a <;> cases b <;> first | exact (show False from h).elim | skip
  rw [Rp] at r1 r2
  exact ⟨_, _, r1, r2, (show WantE Γ M H Q _ from h) _ H (Same.refl H) (by rw [Rp])⟩
theorem od_notB : OpD Γ k X W (compareOp .IsNot) notB := fun S => by
  refine ⟨_, op_notBl, fun M H x y a b Q m r1 r2 h => ?_⟩
  cases a <;> cases b <;> first | exact (show False from h).elim | skip
  rw [Rp] at r1 r2
  exact ⟨_, _, r1, r2, (show WantE Γ M H Q _ from h) _ H (Same.refl H) (by rw [Rp])⟩
/-! ### len of an own object -/
def E.lenO (c : Nat) (g : List D → Res D) (f : Env → Res D) : Env → Res D := fun ρ => (f ρ).bind fun x => match x with
  | .obj c' fs => if c' = c then (match g [.obj c fs] with
    | .ok (.int n) => if 0 ≤ n ∧ n < 9223372036854775808 then .ok (.int n) else .stuck
    | _ => .stuck) else .stuck
  | _ => .stuck
theorem de_lenO {a : Expr} {x : Str} {p pos : Pos} {c : Nat} {f : Env → Res D} {g : List D → Res D} (K : ClsOk Γ c x) (C : CalM Γ j c "__len__" g) (ha : DE Γ k X W a f) (hm : Γ.mg "len" = none) (hk : 0 < k := by first | decide | omega) (hj : j + 1 ≤ k := by first | decide | omega) (hg : Gl X "len" := by rfl)
    (hst : starEach [a] X.env = (false, eval a X.env) :: starEach [] X.env := by rfl) (hpl : (backTo pos (starEach [] X.env)).any (·.1) = false := by rfl) : DE Γ k X W (.Call (.Name "len" p) [a] [] pos) (E.lenO c g f) := fun S => by
  obtain ⟨ta, pa, ra⟩ := ha S
  obtain ⟨fn, mt, cal⟩ := C.ex
  have cr : CallR X (.builtin "len") (fun vs H Q => ∃ a' dx us M fs n, vs = [V.ref a'] ∧ H a' = some (.ins (Γ.cls c) dx us) ∧ (∀ a, M a → H a ≠ none) ∧ Rp Γ M H (.obj c fs) (.ref a') ∧ g [.obj c fs] = .ok (.int n) ∧ (0 ≤ n ∧ n < 9223372036854775808) ∧ ∀ H2, Same H H2 → Q (.int n) H2) := by
    intro pins s σ H xs us Q I rv w
    obtain ⟨a', dx, ws, M, fs, n, rfl, h1, hM, r, hg, hn, w⟩ := w
    cases rv with
    | cons rx rr =>
      cases rr
      cases rx
      obtain ⟨m2, F2⟩ := I.fr
      obtain ⟨_, _, J⟩ := ins_at I h1
      refine PySem.W.len_K F2 I.ok.mod.kin J (by rw [S.K]; exact mt.at_) (by rw [S.K]; exact mt.fn) ?_
      refine thn (cal.runA (A := X.A.in1) (us := [Value.ref a']) (vs := [V.ref a']) (Q := fun v H' => v = .int n ∧ Same H H') S rfl (S.room' hk hj).in1 I (.cons rfl .nil) hM (.cons r .nil) (show Post Γ W σ H (g [.obj c fs]) _ by
        rw [hg]
        intro v H' e rr
        rw [Rp] at rr
        exact ⟨rr, e⟩)) fun z s' z' => ?_
      obtain ⟨v', H', I', rv, rfl, e⟩ := z'
      obtain ⟨t, rfl⟩ := rv
      exact ⟨hn, .int n, H', I'.tok _, ⟨_, rfl⟩, w H' e⟩
  refine ⟨_, pe_callB cr hg (by rw [S.mg]; exact hm) PySem.boot_len (pa_cons pa pa_nil hst) (he := hst) (hpl := hpl), fun M0 H0 σ H ρ Q G h => ?_⟩
  refine ra M0 H0 σ H ρ _ G ((Post.bind h).imp (Same.refl H) fun d w v H1 e1 r => ?_)
  cases d with
  | obj c' fs =>
    dsimp only at w
    split at w
    · rename_i e
      subst e
      obtain ⟨a', dx, us, rfl, b1, _⟩ := obj_at r
      split at w
      · rename_i n hgn
        split at w
        · rename_i hn
          exact ⟨a', dx, us, Mx M0 σ ρ, fs, n, rfl, b1, fun a z => Mx.alive (G.mono e1) z, r, hgn, hn, fun H2 e2 => (show WantE Γ _ H Q _ from w) _ H2 (e1.trans e2) (by rw [Rp])⟩
        · exact (show False from w).elim
      · exact (show False from w).elim
    · exact (show False from w).elim
  | _ => exact (show False from w).elim
end
set_option Elab.async false
set_option linter.all false
set_option maxRecDepth 100000
set_option maxHeartbeats 4000000
/-! ### zip and enumerate over lists or tuples -/
open PySem L2
def SqB (K : PySem.W.Frag) (t : Bool) (H : Hp) (a : Addr) (xs : List V) : Prop := if t then SqL K H a xs else SqT K H a xs
def ItB (t : Bool) (h : Heap) (it l : Addr) (i : Nat) : Prop := if t then h.IsListIter it l i else h.IsTupleIter it l i
def SqH (t : Bool) (h : Heap) (l : Addr) (items : Array Value) : Prop := if t then h.IsList l items else h.IsTuple l items
theorem ItB.at {t : Bool} {h h' : Heap} {it l : Addr} {i : Nat} (x : ItB t h it l i) (k : ∀ o, h.get? it = some o → h'.get? it = some o) : ItB t h' it l i := by
  cases t
  · exact Heap.IsTupleIter.at x k
  · exact Heap.IsListIter.at x k
theorem ItB.obj {t : Bool} {h : Heap} {it l : Addr} {i : Nat} (x : ItB t h it l i) : ∃ o, h.get? it = some o ∧ ∀ v, o.data ≠ .cell v := by
  cases t
  · obtain ⟨o, e, _, d⟩ := (show h.IsTupleIter it l i from x)
    exact ⟨o, e, fun v q => by rw [d] at q; cases q⟩
  · obtain ⟨o, e, _, d⟩ := (show h.IsListIter it l i from x)
    exact ⟨o, e, fun v q => by rw [d] at q; cases q⟩
theorem sqB_inv {X : Cx} {pins : List (Addr × Obj)} {σ : L2.St} {H : Hp} {s : Shared} (I : Inv X pins σ H s) {t : Bool} {a : Addr} {xs : List V} (h : SqB X.K t H a xs) : ∃ its : List Value, Vals xs its ∧ SqH t s.heap a its.toArray ∧ xs.length ≤ sizeLine := by
  cases t
  · obtain ⟨its, rv, p, z⟩ := I.tuple (show SqT X.K H a xs from h)
    exact ⟨its, rv, p, z⟩
  · obtain ⟨its, rv, p, z⟩ := I.list (show SqL X.K H a xs from h)
    exact ⟨its, rv, p.isList, z⟩
theorem sqB_inj {X : Cx} {pins : List (Addr × Obj)} {σ : L2.St} {H : Hp} {s : Shared} (I : Inv X pins σ H s) {t : Bool} {a : Addr} {xs ys : List V} (h : SqB X.K t H a xs) (h' : SqB X.K t H a ys) : xs = ys := by
  cases t
  · exact I.tuple_inj h h'
  · exact I.list_inj h h'
theorem draws_b {prog : Program} {w : World} {A : Around} (hh : A.handled = none) (t : Bool) (it l : Addr) (hne : l ≠ it) (items : Array Value) :
    Draws prog w A it [it, l] items.size (fun i v => items[i]? = some v) (fun i h => ItB t h it l i ∧ SqH t h l items) := by
  cases t
  · exact Draws.tuple hh it l hne items
  · exact Draws.list hh it l hne items
def begB (t : Bool) (l : Addr) : Obj := match t with | true => { cls := .type "list_iterator", data := .fields #[.ref l, .int 0 0] } | false => { cls := .type "tuple_iterator", data := .fields #[.ref l, .int 0 0] }
theorem begins_b (t : Bool) (l : Addr) (items : Array Value) : Begins (.ref l) (begB t l) fun h => SqH t h l items := by
  cases t
  · exact begins_tuple l items
  · exact begins_list l items
theorem begB_it {t : Bool} {h : Heap} {it l : Addr} (e : h.get? it = some (begB t l)) : ItB t h it l 0 := by
  cases t
  · exact ⟨_, e, rfl, rfl⟩
  · exact ⟨_, e, rfl, rfl⟩
theorem SqH.lt {t : Bool} {h : Heap} {l : Addr} {items : Array Value} (x : SqH t h l items) : l < h.objs.size := by
  cases t
  · obtain ⟨o, e, _⟩ := (show h.IsTuple l items from x)
    exact Heap.lt_size e
  · obtain ⟨o, e, _⟩ := (show h.IsList l items from x)
    exact Heap.lt_size e
/-- the sequences at a and b as they stand at each turn -/
def ItzB (K : PySem.W.Frag) (t1 t2 : Bool) (a b : Addr) : It :=
  ⟨fun i H => ∃ (xs ys : List V), SqB K t1 H a xs ∧ SqB K t2 H b ys ∧ i < xs.length ∧ i < ys.length,
    fun i H v H' => ∃ T x y, v = .ref T ∧ H T = none ∧ H' = upd H T (.tup [x, y]) ∧ (∀ xs, SqB K t1 H a xs → xs[i]? = some x) ∧ ∀ ys, SqB K t2 H b ys → ys[i]? = some y,
    fun i H => ∃ xs ys : List V, SqB K t1 H a xs ∧ SqB K t2 H b ys ∧ i ≤ xs.length ∧ i ≤ ys.length ∧ (i = xs.length ∨ i = ys.length)⟩
structure Apt (z TI TO i1 i2 a b : Addr) : Prop where
  S : ZipSep2 z TI TO i1 i2 [i1, a] [i2, b]
  a1 : a ≠ i1
  b2 : b ≠ i2
theorem turn_zipB {P : Program} {w : World} {K : PySem.W.Frag} {elts : List Expr} {kk : Nat} {tpos : Pos} {t1 t2 : Bool} {a b z TI TO i1 i2 : Addr} (D : Apt z TI TO i1 i2 a b) :
    Turn P w K (.Tuple elts kk tpos) (ItzB K t1 t2 a b) [z, TI, TO, i1, i2] z (fun i h => IsZip h z TI TO .none ∧ IsPair h TI (.ref i1) (.ref i2) ∧ (∃ x y, IsPair h TO x y) ∧ ItB t1 h i1 a i ∧ ItB t2 h i2 b i) where
  mem := by simp
  obj := fun i h st c hc => by
    obtain ⟨hz, hTI, ⟨x, y, hTO⟩, h1, h2⟩ := st
    have e' : c = z ∨ c = TI ∨ c = TO ∨ c = i1 ∨ c = i2 := by simpa using hc
    rcases e' with q | q | q | q | q
    · rw [q]; exact ⟨_, hz, fun v q => nomatch q⟩
    · rw [q]; exact ⟨_, hTI, fun v q => nomatch q⟩
    · rw [q]; exact ⟨_, hTO, fun v q => nomatch q⟩
    · rw [q]; exact h1.obj
    · rw [q]; exact h2.obj
  keep := fun i h h' st k => by
    obtain ⟨hz, hTI, ⟨x, y, hTO⟩, h1, h2⟩ := st
    exact ⟨k z (by simp) _ hz, k TI (by simp) _ hTI, ⟨x, y, k TO (by simp) _ hTO⟩, h1.at fun o q => k i1 (by simp) o q, h2.at fun o q => k i2 (by simp) o q⟩
  item := by
    intro X hP hw hK hc i pins s σ H E I hf st hg
    subst hP hw hK
    obtain ⟨hz, hTI, ⟨x0, y0, hTO⟩, h1, h2⟩ := st
    obtain ⟨xs, ys, hqx, hqy, l1, l2⟩ := hg
    obtain ⟨its, rv, p, _⟩ := sqB_inv I hqx
    obtain ⟨its2, rv2, p2, _⟩ := sqB_inv I hqy
    have hx : xs[i]? = some xs[i] := List.getElem?_eq_getElem l1
    have hy : ys[i]? = some ys[i] := List.getElem?_eq_getElem l2
    obtain ⟨u, hu, ru⟩ := rv.get hx
    obtain ⟨u2, hu2, ru2⟩ := rv2.get hy
    have hzl : z < s.heap.objs.size := Heap.lt_size hz
    have m1 := rv.length
    have m2 := rv2.length
    refine wpAny_pyNext_zipD2_item (P1 := fun i v => its.toArray[i]? = some v) (P2 := fun i v => its2.toArray[i]? = some v) (St1 := fun i h => ItB t1 h i1 a i ∧ SqH t1 h a its.toArray) (St2 := fun i h => ItB t2 h i2 b i ∧ SqH t2 h b its2.toArray) D.S
      (draws_b (A := X.A.in1) (show X.A.in1.handled = none from I.ok.hd hc) t1 i1 a D.a1 its.toArray) (draws_b (A := X.A.in1) (show X.A.in1.handled = none from I.ok.hd hc) t2 i2 b D.b2 its2.toArray) hz hTI hTO ⟨h1, p⟩ ⟨h2, p2⟩ (by simp; omega) (by simp; omega) fun x1 x2 h' tk e1 e2 z' TO' st1 st2 hT hsz hk => ?_
    have e1 : its[i]? = some x1 := by simpa using e1
    have e2 : its2[i]? = some x2 := by simpa using e2
    rw [hu] at e1
    rw [hu2] at e2
    cases e1
    cases e2
    have h1' := st1.1
    have h2' := st2.1
    refine ⟨_, rfl, wpAny_letOwnedTupleGo_zip (s := { s with heap := h', toks := tk }) z' fun h'' z'' sb => ?_⟩
    have hT2 : h''.get? s.heap.objs.size = some { cls := .type "tuple", data := .seq #[u, u2] } := (sb.2 _ (Nat.ne_of_gt hzl)).trans hT
    have new : ObjOk X.prog X.w (upd H s.heap.objs.size (.tup [xs[i], ys[i]])) h'' s.heap.objs.size (.tup [xs[i], ys[i]]) :=
      ⟨by show 2 ≤ sizeLine; decide, [u, u2], .cons ru (.cons ru2 .nil), ⟨_, hT2, rfl, _, rfl⟩⟩
    have I1 : Inv X pins σ (upd H s.heap.objs.size (.tup [xs[i], ys[i]])) { s with heap := h'', toks := tk } :=
      I.turnedNew (ch := [z, TI, TO, i1, i2]) (fun c o hb q => (sb.2 c (fun q' => hb (by simp [q']))).trans (hk c o (fun q' => hb (by simp [q'])) (fun q' => hb (by simp [q'])) (fun q' => hb (by simp [q'])) (fun q' => hb (by simp [q'])) q)) hf (Nat.le_refl _) new
    refine ⟨.ref s.heap.objs.size, _, I1, rfl, ⟨_, xs[i], ys[i], rfl, I.hok.fresh (Nat.le_refl _), rfl, fun l hl => by rw [sqB_inj I hl hqx]; exact hx, fun l hl => by rw [sqB_inj I hl hqy]; exact hy⟩, ⟨z'', ?_, ⟨u, u2, ?_⟩, ?_, ?_⟩, fun c hcm => ?_⟩
    · exact (sb.2 _ D.S.TIz).trans (hk _ _ D.S.TIz D.S.TITO D.S.TIi1 D.S.TIi2 hTI)
    · exact (sb.2 _ D.S.TOz).trans TO'
    · exact h1'.at fun o q => (sb.2 _ (Ne.symm D.S.zi1)).trans q
    · exact h2'.at fun o q => (sb.2 _ (Ne.symm D.S.zi2)).trans q
    · have hlt : c < s.heap.objs.size := by
        have e' : c = z ∨ c = TI ∨ c = TO ∨ c = i1 ∨ c = i2 := by simpa using hcm
        rcases e' with q | q | q | q | q
        · rw [q]; exact hzl
        · rw [q]; exact Heap.lt_size hTI
        · rw [q]; exact Heap.lt_size hTO
        · rw [q]; obtain ⟨_, e1, _⟩ := h1.obj; exact Heap.lt_size e1
        · rw [q]; obtain ⟨_, e2, _⟩ := h2.obj; exact Heap.lt_size e2
      rw [upd_ne (Nat.ne_of_lt hlt)]
      exact (hf c hcm).1
  done := by
    intro X hP hw hK hc i pins s σ H E I hf st hg
    subst hP hw hK
    obtain ⟨hz, hTI, ⟨x0, y0, hTO⟩, h1, h2⟩ := st
    obtain ⟨xs, ys, hqx, hqy, l1, l2, hend⟩ := hg
    obtain ⟨its, rv, p, _⟩ := sqB_inv I hqx
    obtain ⟨its2, rv2, p2, _⟩ := sqB_inv I hqy
    have m1 := rv.length
    have m2 := rv2.length
    have a1 : i ≤ its.toArray.size := by simp; omega
    have a2 : i ≤ its2.toArray.size := by simp; omega
    have a3 : i = its.toArray.size ∨ i = its2.toArray.size := by
      rcases hend with q | q
      · exact .inl (by simp; omega)
      · exact .inr (by simp; omega)
    exact wpAny_pyNext_zipD2_end (P1 := fun i v => its.toArray[i]? = some v) (P2 := fun i v => its2.toArray[i]? = some v) (St1 := fun i h => ItB t1 h i1 a i ∧ SqH t1 h a its.toArray) (St2 := fun i h => ItB t2 h i2 b i ∧ SqH t2 h b its2.toArray) D.S
      (draws_b (A := X.A.in1) (show X.A.in1.handled = none from I.ok.hd hc) t1 i1 a D.a1 its.toArray) (draws_b (A := X.A.in1) (show X.A.in1.handled = none from I.ok.hd hc) t2 i2 b D.b2 its2.toArray) hz hTI hTO ⟨h1, p⟩ ⟨h2, p2⟩ a1 a2 a3 fun h' tk hk => ⟨rfl, I.turnedL (t' := tk) (ch := [z, TI, TO, i1, i2]) (fun c o hb q =>
      hk c o (fun q' => hb (by simp [q'])) (fun q' => hb (by simp [q'])) (fun q' => hb (by simp [q'])) (fun q' => hb (by simp [q'])) q) hf⟩
  self := fun A i s Q E st h => wpAny_pyIter_zip st.1 h
theorem apt_new (I a b : Nat) (h1 : a < I) (h2 : b < I) : Apt (I + 4) (I + 2) (I + 3) I (I + 1) a b := by
  have ne : ∀ {x y : Nat}, x ≠ y → ((x : Addr) ≠ (y : Addr)) := fun h => h
  refine ⟨⟨ne (by omega), ne (by omega), ne (by omega), ne (by omega), by simp, ?_, ?_, ne (by omega), by simp, ?_, ?_, ?_, ?_⟩, ne (by omega), ne (by omega)⟩ <;>
  · intro h
    rcases List.mem_cons.mp h with h | h
    · exact absurd h (ne (by omega))
    · exact absurd (List.mem_singleton.mp h) (ne (by omega))
def iZipB (K : PySem.W.Frag) (ta : TA) : TI := fun σ H R => ta σ H fun vs H1 => ∃ a b xs ys t1 t2, vs = [.ref a, .ref b] ∧ SqB K t1 H1 a xs ∧ SqB K t2 H1 b ys ∧ R (ItzB K t1 t2 a b) H1
theorem pi_zipB {X : Cx} {e e2 : Expr} {ta : TA} {p pos tpos : Pos} {elts : List Expr} {kk : Nat} (hg : Gl X "zip") (hm : X.mg "zip" = none) (ha : PA X [e, e2] ta)
    (hs : starEach [e, e2] X.env = (false, eval e X.env) :: starEach [e2] X.env := by rfl) (hpl : (backTo pos (starEach [e2] X.env)).any (·.1) = false := by rfl) :
    PI X (.Tuple elts kk tpos) (.Call (.Name "zip" p) [e, e2] [] pos) (iZipB X.K ta) := by
  refine ⟨fun pins s σ H R I h => ?_⟩
  refine PyProof.Rows.Call_ (ld_blt I hg hm PyProof.Rows.boot_zip (PyProof.Rows.callWith_type1 (thn (ha.run pos pins s σ H _ I h) fun us s1 ⟨vs, H1, I1, r1, q1⟩ => ?_) hs hpl))
  obtain ⟨a, b, xs, ys, t1, t2, ex, hqx, hqy, q⟩ := q1
  subst ex
  cases r1 with
  | cons r rr =>
    cases rr with
    | cons r' rr =>
      cases rr
      cases r
      cases r'
      have fresh5 : ∀ c, c ∈ [s1.heap.objs.size + 4, s1.heap.objs.size + 2, s1.heap.objs.size + 3, s1.heap.objs.size, s1.heap.objs.size + 1] → FpOk X pins H1 c := fun c hcm => by
        have e' : c = s1.heap.objs.size + 4 ∨ c = s1.heap.objs.size + 2 ∨ c = s1.heap.objs.size + 3 ∨ c = s1.heap.objs.size ∨ c = s1.heap.objs.size + 1 := by simpa using hcm
        have hle : s1.heap.objs.size ≤ c := by
          rcases e' with z | z | z | z | z
          · rw [z]; exact Nat.le_add_right _ _
          · rw [z]; exact Nat.le_add_right _ _
          · rw [z]; exact Nat.le_add_right _ _
          · rw [z]; exact Nat.le_refl _
          · rw [z]; exact Nat.le_add_right _ _
        exact I1.fpOk hle (I1.hok.fresh hle)
      obtain ⟨its, rv, p1, _⟩ := sqB_inv I1 hqx
      obtain ⟨its2, rv2, p2, _⟩ := sqB_inv I1 hqy
      refine zip_begins2 (begins_b t1 a its.toArray) (begins_b t2 b its2.toArray) p1 p2 fun h' hz hTI hTO h1 h2 hsz hk => wpAny_pyIter_zip hz ?_
      have I2 : Inv X pins σ H1 { s1 with heap := h' } := I1.kept (t' := s1.toks) hk
      exact ⟨s1.heap.objs.size + 4, [s1.heap.objs.size + 4, s1.heap.objs.size + 2, s1.heap.objs.size + 3, s1.heap.objs.size, s1.heap.objs.size + 1], _, _, H1, rfl, I2, turn_zipB (apt_new s1.heap.objs.size a b p1.lt p2.lt), ⟨hz, hTI, ⟨_, _, hTO⟩, begB_it h1, begB_it h2⟩, fresh5, q⟩
theorem walk_zipB {K : PySem.W.Frag} {t1 t2 : Bool} {a b : Addr} {xs ys : List V} {n : Nat} (hn : n = min xs.length ys.length) : Walk (ItzB K t1 t2 a b) n (fun H => SqB K t1 H a xs ∧ SqB K t2 H b ys) (YPair (fun i => xs[i]?) (fun i => ys[i]?)) := by
  refine ⟨fun i _ hi q => ⟨xs, ys, q.1, q.2, by omega, by omega⟩, fun _ q => ⟨xs, ys, q.1, q.2, by omega, by omega, by omega⟩, fun i H v H' hi q y => ?_⟩
  obtain ⟨T, x, z, h1, h2, h3, h4, h5⟩ := y
  exact ⟨T, x, z, h1, h2, h3, h4 xs q.1, h5 ys q.2⟩
/-! enumerate -/
def IteB (K : PySem.W.Frag) (t : Bool) (a : Addr) : It :=
  ⟨fun i H => ∃ (xs : List V), SqB K t H a xs ∧ i < xs.length, fun i H v H' => ∃ T x, v = .ref T ∧ H T = none ∧ H' = upd H T (.tup [.int (i : Nat), x]) ∧ ∀ xs, SqB K t H a xs → xs[i]? = some x, fun i H => ∃ xs : List V, SqB K t H a xs ∧ i = xs.length⟩
theorem turn_enumB {P : Program} {w : World} {K : PySem.W.Frag} {elts : List Expr} {kk : Nat} {tpos : Pos} {t : Bool} (a e it : Addr) (hai : a ≠ it) (hea : e ≠ a) :
    Turn P w K (.Tuple elts kk tpos) (IteB K t a) [e, it] e (fun i h => (∃ old, IsEnum h e it ((i : Nat) : Int) old) ∧ ItB t h it a i ∧ e ≠ it) where
  mem := by simp
  obj := fun i h st b hb => by
    obtain ⟨⟨old, he⟩, h1, _⟩ := st
    have e' : b = e ∨ b = it := by simpa using hb
    rcases e' with z | z
    · rw [z]; exact ⟨_, he, fun v q => nomatch q⟩
    · rw [z]; exact h1.obj
  keep := fun i h h' st k => let ⟨⟨old, he⟩, hi, hne⟩ := st; ⟨⟨old, k e (by simp) _ he⟩, hi.at fun o q => k it (by simp) o q, hne⟩
  item := by
    intro X hP hw hK hc i pins s σ H E I hf st hg
    subst hP hw hK
    obtain ⟨⟨old, he⟩, hit, hne⟩ := st
    obtain ⟨xs, hq, l1⟩ := hg
    obtain ⟨its, rv, p, hz⟩ := sqB_inv I hq
    have hx : xs[i]? = some xs[i] := List.getElem?_eq_getElem l1
    obtain ⟨u, hu, ru⟩ := rv.get hx
    have m1 := rv.length
    have hel : e < s.heap.objs.size := Heap.lt_size he
    have hil : it < s.heap.objs.size := by obtain ⟨_, q, _⟩ := hit.obj; exact Heap.lt_size q
    refine wpAny_pyNext_enum_itemD (P := fun i v => its.toArray[i]? = some v) (St := fun i h => ItB t h it a i ∧ SqH t h a its.toArray) (draws_b (A := X.A.in1) (show X.A.in1.handled = none from I.ok.hd hc) t it a hai its.toArray) he ⟨hit, p⟩ (by simp; omega) hne (by simp [hne, hea]) fun x h' tk e1 ho st' hT hsz hk => ?_
    have e1 : its[i]? = some x := by simpa using e1
    rw [hu] at e1
    cases e1
    have hit' := st'.1
    refine ⟨_, rfl, wpAny_letOwnedTupleGo_enum (s := { s with heap := h', toks := tk + 1 }) ho fun h'' he' sb => ?_⟩
    have hT2 : h''.get? s.heap.objs.size = some { cls := .type "tuple", data := .seq #[.int i tk, u] } := (sb.2 _ (Nat.ne_of_gt hel)).trans hT
    have new : ObjOk X.prog X.w (upd H s.heap.objs.size (.tup [.int (i : Nat), xs[i]])) h'' s.heap.objs.size (.tup [.int (i : Nat), xs[i]]) :=
      ⟨by show 2 ≤ sizeLine; decide, [.int i tk, u], .cons ⟨_, rfl⟩ (.cons ru .nil), ⟨_, hT2, rfl, _, rfl⟩⟩
    have I1 : Inv X pins σ (upd H s.heap.objs.size (.tup [.int (i : Nat), xs[i]])) { s with heap := h'', toks := tk + 1 } :=
      I.turnedNew (ch := [e, it]) (fun b ob hb q => (sb.2 b (fun z => hb (by simp [z]))).trans (hk b ob (fun z => hb (by simp [z])) (fun z => hb (by simp [z])) q)) hf (Nat.le_refl _) new
    refine ⟨.ref s.heap.objs.size, _, I1, rfl, ⟨_, xs[i], rfl, I.hok.fresh (Nat.le_refl _), rfl, fun ys hy => by rw [sqB_inj I hy hq]; exact hx⟩, ⟨⟨u, ?_⟩, hit'.at fun o q => (sb.2 it (Ne.symm hne)).trans q, hne⟩, fun b hb => ?_⟩
    · have e1 : ((i + 1 : Nat) : Int) = (i : Int) + 1 := by omega
      rw [e1]; exact he'
    · have hb' : b < s.heap.objs.size := by
        have e' : b = e ∨ b = it := by simpa using hb
        rcases e' with z | z
        · rw [z]; exact hel
        · rw [z]; exact hil
      rw [upd_ne (Nat.ne_of_lt hb')]
      exact (hf b hb).1
  done := by
    intro X hP hw hK hc i pins s σ H E I hf st hg
    subst hP hw hK
    obtain ⟨⟨old, he⟩, hit, hne⟩ := st
    obtain ⟨xs, hq, hx⟩ := hg
    obtain ⟨its, rv, p, hz⟩ := sqB_inv I hq
    obtain ⟨f0, f1, f2, f3, f4, f5⟩ := hf it (by simp)
    have m1 := rv.length
    have e1 : i = its.toArray.size := by simp; omega
    subst e1
    exact wpAny_pyNext_enum_endD (P := fun i v => its.toArray[i]? = some v) (St := fun i h => ItB t h it a i ∧ SqH t h a its.toArray) (draws_b (A := X.A.in1) (show X.A.in1.handled = none from I.ok.hd hc) t it a hai its.toArray) he ⟨hit, p⟩ fun h' eb => ⟨rfl, I.turned (t' := s.toks) (fun b o hb q => eb b o hb q) f0 f1 f3 f4 f5⟩
  self := fun A i s Q E st h => let ⟨⟨_, he⟩, _⟩ := st; wpAny_pyIter_enum he h
set_option maxHeartbeats 1000000 in
theorem meets_enum1B {v : Value} {o : Obj} {H : Heap → Prop} (B : Begins v o H) :
    Meets (Builtin.«enumerate.__new__» ⟨[.type "enumerate", v], []⟩) (fun _ R s => H s.heap ∧
      R (.ok (.ret (.ref (s.heap.push o).objs.size))) { s with heap := (s.heap.push o).push { cls := .type "enumerate", data := .fields #[.none, .bool false, .ref s.heap.objs.size, rawInt 0, .none, .none] } }) :=
  .of_wp fun prog w A R s h => by
    obtain ⟨hp, g, d, tk, os⟩ := s; obtain ⟨h1, h⟩ := h
    have hsub := sub_enumerate
    have q1 : ∀ {A' : Around} {E : Value → Shared → Prop} {Q : Value → Shared → Prop}, Q (.ref hp.objs.size) ⟨hp.push o, g, d, tk, os⟩ → wpAny (model prog w) A' (pyIter v) Q E ⟨hp, g, d, tk, os⟩ :=
      fun q => B.iter prog w _ _ ⟨hp, g, d, tk, os⟩ _ h1 q
    wp_walk using q1
    refine wpAny_stack_any fun st => wpAny_pure ?_
    split
    · rename_i c _ _ _ _ _
      cases (c == Value.type "enumerate")
      · wp_walk using q1
        exact ⟨_, rfl, h⟩
      · wp_walk using q1
        exact ⟨_, rfl, h⟩
    · wp_walk using q1
      exact ⟨_, rfl, h⟩
theorem enum_begins1 {prog : Program} {w : World} {A : Around} {E : Value → Shared → Prop} {s : Shared} {v : Value} {o : Obj} {H : Heap → Prop} {Q : Value → Shared → Prop} (B : Begins v o H) (h1 : H s.heap)
    (h : ∀ h', IsEnum h' (s.heap.objs.size + 1) s.heap.objs.size 0 .none → h'.get? s.heap.objs.size = some o → h'.objs.size = s.heap.objs.size + 2 →
      (∀ b o, s.heap.get? b = some o → h'.get? b = some o) → Q (.ref (s.heap.objs.size + 1)) { s with heap := h' }) :
    wpAny (model prog w) A (call (.type "enumerate") [v]) Q E s := by
  refine callType_new F.called_enumerate (by decide) (F.typeCall_enumerate_1 _) (F.newCall_enumerate_1 _) (fun obj => F.args_object_init_2 obj _) F.entry_enumerate_new
    (meets_enum1B B) ⟨h1, ?_⟩
  have hz : (s.heap.push o).objs.size = s.heap.objs.size + 1 := Heap.size_push ..
  show _ ∧ _
  rw [hz]
  have he : IsEnum ((s.heap.push o).push { cls := .type "enumerate", data := .fields #[.none, .bool false, .ref s.heap.objs.size, rawInt 0, .none, .none] }) (s.heap.objs.size + 1) s.heap.objs.size 0 .none := by
    have := Heap.get?_push_size (s.heap.push o) (o := { cls := .type "enumerate", data := .fields #[.none, .bool false, .ref s.heap.objs.size, rawInt 0, .none, .none] }) rfl
    rw [hz] at this; exact this
  refine ⟨⟨_, he, rfl⟩, h _ he (Heap.get?_push_of_some _ (Heap.get?_push_size _ B.free)) (by rw [Heap.size_push, hz]) fun b o x => Heap.get?_push_of_some _ (Heap.get?_push_of_some _ x)⟩
def iEnumB (K : PySem.W.Frag) (ta : TA) : TI := fun σ H R => ta σ H fun vs H1 => ∃ a xs t, vs = [.ref a] ∧ SqB K t H1 a xs ∧ R (IteB K t a) H1
theorem pi_enumB {X : Cx} {e : Expr} {ta : TA} {p pos tpos : Pos} {elts : List Expr} {kk : Nat} (hg : Gl X "enumerate") (hm : X.mg "enumerate" = none) (ha : PA X [e] ta) (hs : starEach [e] X.env = [(false, eval e X.env)] := by rfl) :
    PI X (.Tuple elts kk tpos) (.Call (.Name "enumerate" p) [e] [] pos) (iEnumB X.K ta) := by
  refine ⟨fun pins s σ H R I h => ?_⟩
  refine PyProof.Rows.Call_ (ld_blt I hg hm PyProof.Rows.boot_enumerate (PyProof.Rows.callWith_type1 (thn (ha.run pos pins s σ H _ I h) fun us s1 ⟨vs, H1, I1, r1, q1⟩ => ?_) hs rfl))
  obtain ⟨a, xs, t, ex, hq, q⟩ := q1
  subst ex
  cases r1 with
  | cons r rr =>
    cases rr
    cases r
    obtain ⟨its, rv, p', hz⟩ := sqB_inv I1 hq
    have lt := p'.lt
    refine enum_begins1 (begins_b t a its.toArray) p' fun h' he hit hsz hk => wpAny_pyIter_enum he ?_
    have I2 : Inv X pins σ H1 { s1 with heap := h' } := I1.kept (t' := s1.toks) hk
    have ne : ∀ {x y : Nat}, x ≠ y → ((x : Addr) ≠ (y : Addr)) := fun h => h
    refine ⟨s1.heap.objs.size + 1, [s1.heap.objs.size + 1, s1.heap.objs.size], _, _, H1, rfl, I2, turn_enumB a (s1.heap.objs.size + 1) s1.heap.objs.size (Nat.ne_of_lt lt) (Nat.ne_of_gt (Nat.lt_succ_of_lt lt)), ⟨⟨.none, he⟩, begB_it hit, Nat.succ_ne_self _⟩, fun b hb => ?_, q⟩
    have e' : b = s1.heap.objs.size + 1 ∨ b = s1.heap.objs.size := by simpa using hb
    have hle : s1.heap.objs.size ≤ b := by
      rcases e' with z | z
      · rw [z]; exact Nat.le_add_right _ _
      · rw [z]; exact Nat.le_refl _
    exact I1.fpOk hle (I1.hok.fresh hle)
theorem walk_enumB {K : PySem.W.Frag} {t : Bool} {a : Addr} {xs : List V} : Walk (IteB K t a) xs.length (fun H => SqB K t H a xs) (YPair (fun i => some (.int (i : Nat))) (fun i => xs[i]?)) := by
  refine ⟨fun i _ hi q => ⟨xs, q, hi⟩, fun _ q => ⟨xs, q, rfl⟩, fun i H v H' _ q y => ?_⟩
  obtain ⟨T, x, h1, h2, h3, h4⟩ := y
  exact ⟨T, .int (i : Nat), x, h1, h2, h3, rfl, h4 xs q⟩
set_option Elab.async false
set_option linter.all false
set_option maxRecDepth 100000
set_option maxHeartbeats 4000000
/-! ### zip, enumerate, slices of lists or tuples; methods that return a new list -/
open PySem L2
def WantKY (Γ : Gam) (M : Addr → Prop) (H : Hp) (Q : VK) (ds : List D) : Prop := ∀ t p vs H', Same H H' → SqAt Γ t M H' p vs → RpL Γ M H' ds vs → Q (.ref p) H'
def DKY (Γ : Gam) (k : Nat) (X : Cx) (W : WX) (e : Expr) (f : Env → Res (List D)) : Prop := Sit Γ k X W → ∃ te : TE, PE X e te ∧
  ∀ M0 H0 σ H ρ Q, Gd Γ M0 H0 σ H ρ → Post Γ W σ H (f ρ) (WantKY Γ (Mx M0 σ ρ) H Q) → te σ H Q
section
variable {Γ : Gam} {k j : Nat} {X : Cx} {W : WX} {l : Bool}
theorem dky_seq {e : Expr} {f : Env → Res D} (h : DE Γ k X W e f) : DKY Γ k X W e (Z.seq f) := fun S => by
  obtain ⟨te, pe, r⟩ := h S
  refine ⟨te, pe, fun M0 H0 σ H ρ Q G h => r M0 H0 σ H ρ Q G ((Post.bind h).imp (Same.refl H) fun d w v H' e r => ?_)⟩
  cases d with
  | lst ds =>
    rw [Rp] at r
    obtain ⟨p, vs, rfl, t, r⟩ := r
    exact (show WantKY Γ _ H Q ds from w) true p vs H' e (by unfold SqAt; rw [if_pos rfl]; exact t) r
  | tup ds =>
    rw [Rp] at r
    obtain ⟨p, vs, rfl, t, r⟩ := r
    exact (show WantKY Γ _ H Q ds from w) false p vs H' e (by unfold SqAt; rw [if_neg Bool.false_ne_true]; exact t) r
  | _ => exact (show False from w).elim
theorem dky_dk {e : Expr} {f : Env → Res (List D)} (h : DK Γ k X W l e f) : DKY Γ k X W e f := fun S => by
  obtain ⟨te, pe, r⟩ := h S
  exact ⟨te, pe, fun M0 H0 σ H ρ Q G h => r M0 H0 σ H ρ Q G (h.imp (Same.refl H) fun ds w p vs H' e sq r => w l p vs H' e sq r)⟩
theorem di_zipY {a b : Expr} {fa fb : Env → Res (List D)} {elts : List Expr} {kk : Nat} {p pos tpos : Pos} (ha : DKY Γ k X W a fa) (hb : DKY Γ k X W b fb) (hm : Γ.mg "zip" = none) (hg : Gl X "zip" := by rfl)
    (hs : starEach [a, b] X.env = (false, eval a X.env) :: starEach [b] X.env := by rfl) (hs2 : starEach [b] X.env = (false, eval b X.env) :: starEach [] X.env := by rfl) (hpl : (backTo pos (starEach [b] X.env)).any (·.1) = false := by rfl) :
    DI Γ k X W (.Tuple elts kk tpos) (.Call (.Name "zip" p) [a, b] [] pos) (Z.zip fa fb) := fun S => by
  obtain ⟨ta, pa, ra⟩ := ha S
  obtain ⟨tb, pb, rb⟩ := hb S
  refine ⟨_, pi_zipB hg (by rw [S.mg]; exact hm) (pa_cons pa (pa_cons pb pa_nil hs2) hs) hs hpl, fun M0 H0 σ H ρ R G h => ?_⟩
  refine ra M0 H0 σ H ρ _ G ((Post.bind h).imp (Same.refl H) fun xs w t1 a us H1 e1 s1 r1 => ?_)
  have G1 := G.mono e1
  refine rb M0 H0 σ H1 ρ _ G1 ((Post.bind w).imp e1 fun ys w2 t2 b ws H2 e2 s2 r2 => ?_)
  have w2 : WantI Γ (Mx M0 σ ρ) H R (pairs xs ys) := w2
  have s1 := s1.imp (.mono e2)
  have r1 := r1.mono e2
  have hl : (pairs xs ys).length = min us.length ws.length := by rw [pairs_length, r1.length, r2.length]
  refine ⟨a, b, us, ws, t1, t2, rfl, ?_⟩
  rw [S.K]
  exact ⟨s1.sq, s2.sq, w2 _ H2 _ _ (e1.trans e2) (walk_zipB hl) fun M' H' im al => ⟨⟨(s1.imp im).sq, (s2.imp im).sq⟩, fun i x H3 hi y => pair_item al (RpL.imp im _ _ r1) (RpL.imp im _ _ r2) hi y⟩⟩
abbrev Z.zipS (f g : Env → Res D) : Env → Res (List D) := Z.zip (Z.seq f) (Z.seq g)
theorem di_zipS {a b : Expr} {fa fb : Env → Res D} {elts : List Expr} {kk : Nat} {p pos tpos : Pos} (ha : DE Γ k X W a fa) (hb : DE Γ k X W b fb) (hm : Γ.mg "zip" = none) (hg : Gl X "zip" := by rfl)
    (hs : starEach [a, b] X.env = (false, eval a X.env) :: starEach [b] X.env := by rfl) (hs2 : starEach [b] X.env = (false, eval b X.env) :: starEach [] X.env := by rfl) (hpl : (backTo pos (starEach [b] X.env)).any (·.1) = false := by rfl) :
    DI Γ k X W (.Tuple elts kk tpos) (.Call (.Name "zip" p) [a, b] [] pos) (Z.zipS fa fb) := di_zipY (dky_seq ha) (dky_seq hb) hm hg hs hs2 hpl
theorem rpl_ixs {M : Addr → Prop} {H : Hp} (n : Nat) : RpL Γ M H (ixs n) ((List.range n).map fun (i : Nat) => V.int (i : Int)) := by
  have go : ∀ l : List Nat, RpL Γ M H (l.map fun (i : Nat) => D.int (i : Int)) (l.map fun (i : Nat) => V.int (i : Int)) := fun l => by
    induction l with
    | nil => exact .nil
    | cons a r ih => exact .cons (by rw [Rp]) ih
  exact go _
theorem enum_item {M' : Addr → Prop} {H' H2 : Hp} {xs : List D} {us : List V} {i : Nat} {x : V} (al : ∀ a, M' a → H' a ≠ none) (r1 : RpL Γ M' H' xs us) (hi : i < (pairs (ixs xs.length) xs).length) (y : YPair (fun i => some (.int (i : Nat))) (fun i => us[i]?) i H' x H2) :
    Same H' H2 ∧ ∃ d, (pairs (ixs xs.length) xs)[i]? = some d ∧ Rp Γ M' H2 d x := by
  refine pair_item al (rpl_ixs _) r1 hi ?_
  obtain ⟨T, v, w, h1, h2, h3, h4, h5⟩ := y
  refine ⟨T, v, w, h1, h2, h3, ?_, h5⟩
  rw [pairs_length, ixs_length] at hi
  show (List.map _ _)[i]? = _
  rw [List.getElem?_map, List.getElem?_range (by omega)]
  exact h4
theorem di_enumY {a : Expr} {fa : Env → Res (List D)} {elts : List Expr} {kk : Nat} {p pos tpos : Pos} (ha : DKY Γ k X W a fa) (hm : Γ.mg "enumerate" = none) (hg : Gl X "enumerate" := by rfl) (hs : starEach [a] X.env = [(false, eval a X.env)] := by rfl) :
    DI Γ k X W (.Tuple elts kk tpos) (.Call (.Name "enumerate" p) [a] [] pos) (Z.enum fa) := fun S => by
  obtain ⟨ta, pa, ra⟩ := ha S
  have hn : starEach [] X.env = [] := by rfl
  refine ⟨_, pi_enumB hg (by rw [S.mg]; exact hm) (pa_cons pa pa_nil (by rw [hs, hn])) hs, fun M0 H0 σ H ρ R G h => ?_⟩
  refine ra M0 H0 σ H ρ _ G ((Post.bind h).imp (Same.refl H) fun xs w t a us H1 e1 s1 r1 => ?_)
  have w : WantI Γ (Mx M0 σ ρ) H R (pairs (ixs xs.length) xs) := w
  refine ⟨a, us, t, rfl, by rw [S.K]; exact s1.sq, ?_⟩
  rw [S.K]
  have hl : (pairs (ixs xs.length) xs).length = us.length := by rw [pairs_length, ixs_length, r1.length]; omega
  exact w _ H1 _ _ e1 (by rw [hl]; exact walk_enumB) fun M' H' im al => ⟨(s1.imp im).sq, fun i x H3 hi y => enum_item al (RpL.imp im _ _ r1) hi y⟩
/-! in comprehensions -/
theorem sqY_b {K : PySem.W.Frag} {H : Hp} {p : Addr} {vs : List V} (h : SqL K H p vs ∨ SqT K H p vs) : ∃ t, SqB K t H p vs := by
  rcases h with h | h
  · exact ⟨true, h⟩
  · exact ⟨false, h⟩
theorem SqB.mono {K : PySem.W.Frag} {H H' : Hp} {p : Addr} {vs : List V} {t : Bool} (sm : Same H H') (h : SqB K t H p vs) : SqB K t H' p vs := by
  cases t
  · have h : SqT K H p vs := h
    show SqT K H' p vs
    rcases h with (h | ⟨o, h⟩) | h
    · exact .inl (.inl (sm _ _ h))
    · exact .inl (.inr ⟨o, sm _ _ h⟩)
    · exact .inr h
  · exact sm.seq (show SqL K H p vs from h)
theorem dc_zipY {a b : Expr} {fa fb : Env → Res (List D)} {elts : List Expr} {kk : Nat} {p pos tpos : Pos} (ha : DY Γ k X W a fa) (hb : DY Γ k X W b fb) (hm : Γ.mg "zip" = none) (hg : Gl X "zip" := by rfl)
    (hs : starEach [a, b] X.env = (false, eval a X.env) :: starEach [b] X.env := by rfl) (hs2 : starEach [b] X.env = (false, eval b X.env) :: starEach [] X.env := by rfl) (hpl : (backTo pos (starEach [b] X.env)).any (·.1) = false := by rfl) :
    DC Γ k X W (.Tuple elts kk tpos) (.Call (.Name "zip" p) [a, b] [] pos) (Z.zip fa fb) := fun S => by
  obtain ⟨ta, pa, ra⟩ := ha S
  obtain ⟨tb, pb, rb⟩ := hb S
  refine ⟨_, pi_zipB hg (by rw [S.mg]; exact hm) (pa_cons pa (pa_cons pb pa_nil hs2) hs) hs hpl, fun M0 H0 σ H ρ R G h => ?_⟩
  refine ra M0 H0 σ H ρ _ G ((Post.bind h).imp (Same.refl H) fun xs w a us H1 e1 s1 r1 => ?_)
  have G1 := G.mono e1
  refine rb M0 H0 σ H1 ρ _ G1 ((Post.bind w).imp e1 fun ys w2 b ws H2 e2 s2 r2 => ?_)
  have w2 : WantC Γ (Mx M0 σ ρ) H R (pairs xs ys) := w2
  have r1 := r1.mono e2
  have hl : (pairs xs ys).length = min us.length ws.length := by rw [pairs_length, r1.length, r2.length]
  obtain ⟨t1, s1⟩ := sqY_b s1
  obtain ⟨t2, s2⟩ := sqY_b s2
  have s1 := s1.mono e2
  refine ⟨a, b, us, ws, t1, t2, rfl, ?_⟩
  rw [S.K]
  exact ⟨s1, s2, w2 _ H2 _ _ (e1.trans e2) (walk_zipB hl) fun M' H' im sm al => ⟨⟨s1.mono sm, s2.mono sm⟩, fun i x H3 hi y => pair_item al (RpL.imp im _ _ r1) (RpL.imp im _ _ r2) hi y⟩⟩
theorem dc_enumY {a : Expr} {fa : Env → Res (List D)} {elts : List Expr} {kk : Nat} {p pos tpos : Pos} (ha : DY Γ k X W a fa) (hm : Γ.mg "enumerate" = none) (hg : Gl X "enumerate" := by rfl) (hs : starEach [a] X.env = [(false, eval a X.env)] := by rfl) :
    DC Γ k X W (.Tuple elts kk tpos) (.Call (.Name "enumerate" p) [a] [] pos) (Z.enum fa) := fun S => by
  obtain ⟨ta, pa, ra⟩ := ha S
  have hn : starEach [] X.env = [] := by rfl
  refine ⟨_, pi_enumB hg (by rw [S.mg]; exact hm) (pa_cons pa pa_nil (by rw [hs, hn])) hs, fun M0 H0 σ H ρ R G h => ?_⟩
  refine ra M0 H0 σ H ρ _ G ((Post.bind h).imp (Same.refl H) fun xs w a us H1 e1 s1 r1 => ?_)
  have w : WantC Γ (Mx M0 σ ρ) H R (pairs (ixs xs.length) xs) := w
  obtain ⟨t, s1⟩ := sqY_b s1
  refine ⟨a, us, t, rfl, by rw [S.K]; exact s1, ?_⟩
  rw [S.K]
  have hl : (pairs (ixs xs.length) xs).length = us.length := by rw [pairs_length, ixs_length, r1.length]; omega
  exact w _ H1 _ _ e1 (by rw [hl]; exact walk_enumB) fun M' H' im sm al => ⟨s1.mono sm, fun i x H3 hi y => enum_item al (RpL.imp im _ _ r1) hi y⟩
/-! slices of a list or tuple -/
def E.cutS (f : Env → Res D) (lo hi : Env → Res (Option Int)) : Env → Res D := fun ρ => (f ρ).bind fun x => (lo ρ).bind fun a => (hi ρ).bind fun b => match x with
  | .lst xs => .ok (.lst (De.cut xs a b))
  | .tup xs => .ok (.tup (De.cut xs a b))
  | _ => .stuck
theorem cut_whole {xs : List D} {a b : Option Int} (h : HT.sIx xs.length 0 a = 0 ∧ HT.sIx xs.length xs.length b = xs.length) : De.cut xs a b = xs := by
  unfold De.cut
  rw [h.1, h.2, List.drop_zero, Nat.sub_zero, List.take_length]
theorem de_cutS {a : Expr} {lo hi : Option Expr} {q : Env → Res D} {f g : Env → Res (Option Int)} {p2 pos : Pos} (ha : DE Γ k X W a q) (hl : DP Γ k X W lo f) (hh : DP Γ k X W hi g) : DE Γ k X W (.Subscript a (.Slice lo hi none p2) pos) (E.cutS q f g) := fun S => by
  obtain ⟨ta, pa, ra⟩ := ha S
  obtain ⟨tl, pl, rl⟩ := hl S
  obtain ⟨th, ph, rh⟩ := hh S
  refine ⟨_, pe_slice (sl_list.or sl_tupA) pa pl ph, fun M0 H0 σ H ρ Q G h => ?_⟩
  refine ra M0 H0 σ H ρ _ G ((Post.bind h).imp (Same.refl H) fun x w v H1 e1 r => ?_)
  refine rl M0 H0 σ H1 ρ _ (G.mono e1) ((Post.bind w).imp e1 fun i w2 H2 e2 => ?_)
  refine rh M0 H0 σ H2 ρ _ ((G.mono e1).mono e2) ((Post.bind w2).imp (e1.trans e2) fun j w3 H3 e3 => ?_)
  have e := (e1.trans e2).trans e3
  have G3 := ((G.mono e1).mono e2).mono e3
  have r := (r.mono e2).mono e3
  cases x with
  | lst xs =>
    have w3 : WantE Γ (Mx M0 σ ρ) H Q (.lst (De.cut xs i j)) := w3
    rw [Rp] at r
    obtain ⟨p, vs, rfl, t, r⟩ := r
    refine .inl ⟨p, vs, rfl, by rw [S.K]; exact t.sq, fun b hb => ?_⟩
    have s : Same H3 (upd H3 b (.lst (cutV vs i j))) := fun a o h => by rw [upd_ne (ne_of_none h hb)]; exact h
    refine w3 _ _ (e.trans s) ?_
    rw [Rp]
    exact ⟨b, _, rfl, .inl ⟨.inl upd_same, fun z => Mx.alive G3 z hb⟩, (r.cut i j).mono s⟩
  | tup xs =>
    have w3 : WantE Γ (Mx M0 σ ρ) H Q (.tup (De.cut xs i j)) := w3
    have r' := r
    rw [Rp] at r
    obtain ⟨p, vs, rfl, t, r⟩ := r
    refine .inr ⟨p, vs, rfl, by rw [S.K]; exact t.sq, fun hw => ?_, fun hw b hb => ?_⟩
    · rw [r.length] at hw
      rw [cut_whole hw] at w3
      exact w3 _ _ e r'
    · have s : Same H3 (upd H3 b (.tup (cutV vs i j))) := fun a o h => by rw [upd_ne (ne_of_none h hb)]; exact h
      refine w3 _ _ (e.trans s) ?_
      rw [Rp]
      exact ⟨b, _, rfl, .inl ⟨.inl upd_same, fun z => Mx.alive G3 z hb⟩, (r.cut i j).mono s⟩
  | _ => exact (show False from w3).elim
/-! a method that returns a new list -/
structure CalMF (Γ : Gam) (j : Nat) (c : Nat) (m : Str) (g : List D → Res (List D)) : Prop where
  ex : ∃ f, Meth Γ.K (Γ.cls c) m f ∧ CalF Γ j f g
  no : m ∉ Γ.fld c
def E.methF (c : Nat) (g : List D → Res (List D)) (fo : Env → Res D) (fa : Env → Res (List D)) : Env → Res (List D) := fun ρ => (fo ρ).bind fun x => match x with
  | .obj c' _ => if c' = c then (fa ρ).bind fun as => g (x :: as) else .stuck
  | _ => .stuck
theorem methF_obj {c : Nat} {g : List D → Res (List D)} {x : D} {r : Res (List D)} {σ : St} {H : Hp} {Q : List D → Prop}
    (h : Post Γ W σ H (match x with | .obj c' _ => if c' = c then r.bind fun as => g (x :: as) else .stuck | _ => .stuck) Q) : ∃ fs, x = .obj c fs ∧ Post Γ W σ H (r.bind fun as => g (x :: as)) Q := by
  cases x with
  | obj c' fs =>
    dsimp only at h
    split at h
    · rename_i e
      exact ⟨fs, by rw [e], h⟩
    · exact h.elim
  | _ => exact h.elim
theorem df_meth0 {pl : Sem Bool} {o : Expr} {m x : Str} {apos pos : Pos} {c : Nat} {fo : Env → Res D} {g : List D → Res (List D)} (K : ClsOk Γ c x) (C : CalMF Γ j c m g) (ho : DE Γ k X W o fo)
    (hk : 0 < k := by first | decide | omega) (hj : j ≤ k := by first | decide | omega)
    (ht : eval (.Call (.Attribute o m apos) [] [] pos) X.env = (do
      let r ← eval o X.env
      standAt apos.atName
      let (h, l) ← holding [r] (getMethod r m pl)
      callWith pos h l (backTo pos (starEach [] X.env)) (backToKw pos (keywordEach [] X.env))) := by rfl) : DF Γ k X W (.Call (.Attribute o m apos) [] [] pos) (E.methF c g fo E.nil) := fun S => by
  obtain ⟨to, po, ro⟩ := ho S
  obtain ⟨f, mt, cal⟩ := C.ex
  have clX : Cls X.K (Γ.cls c) := by rw [S.K]; exact K.cl
  have mtX : Meth X.K (Γ.cls c) m f := by rw [S.K]; exact mt
  refine ⟨fun σ H Q => to σ H fun x H1 => ∃ a dx us, x = V.ref a ∧ H1 a = some (.ins (Γ.cls c) dx us) ∧ us.lookup m = none ∧ RCal Γ W g (WantF Γ) [.ref a] σ H1 Q, ⟨fun pins s σ H Q I h => ?_⟩, fun M0 H0 σ H ρ Q G h => ?_⟩
  · refine PySem.W.methodCall_KW (pl := pl) (thn (po.run pins s σ H _ I h) fun u s1 ⟨x, H1, I1, rx, a, dx, us, ex, ea, l, M, as, hM, r, z⟩ => ?_) ht
    subst ex
    cases rx
    exact getmeth_ok I1 ea clX mtX l (PySem.W.callWith_K0 (first := [Value.ref a]) I1.kIn mtX.kp (cal.run (us := [Value.ref a]) (vs := [V.ref a]) S hk hj I1 (.cons rfl .nil) hM r z))
  · refine ro M0 H0 σ H ρ _ G ((Post.bind h).imp (Same.refl H) fun d q v H1 e1 r1 => ?_)
    obtain ⟨fs, rfl, q1⟩ := methF_obj q
    have r1' := r1
    rw [Rp] at r1'
    obtain ⟨a, dx, us, rfl, h1, h2, h3, h4⟩ := r1'
    refine ⟨a, dx, us, rfl, h1, lookup_no h3 C.no, Mx M0 σ ρ, [.obj c fs], fun a z => Mx.alive (G.mono e1) z, .cons r1 .nil, ?_⟩
    exact (show Post Γ W σ H (g [.obj c fs]) _ from q1).imp e1 fun a z => WantF.back e1 z
end
set_option Elab.async false
set_option linter.all false
set_option maxRecDepth 100000
set_option maxHeartbeats 4000000
/-! ### walking an own object whose __iter__ returns iter(tuple) -/
open PySem L2
theorem call_iterT {prog : Program} {w : World} {A : Around} {E : Value → Shared → Prop} {s : Shared} {l : Addr} {items : Array Value} {Q : Value → Shared → Prop} (hl : s.heap.IsTuple l items) (h : Q (.ref s.heap.objs.size) { s with heap := s.heap.push { cls := .type "tuple_iterator", data := .fields #[.ref l, .int 0 0] } }) : wpAny (model prog w) A (call (.builtin "iter") [.ref l]) Q E s := by
  refine Calls.call_function_entry (by decide +kernel) (by decide +kernel) PySem.W.kdk_entry_iter (PySem.W.kdk_args_iter _) ?_
  unfold Builtin.«iter»
  refine wpAny_bind (m := someArgs "iter" 1 2 _) (wpAny_of_eq (a := [Value.ref l]) (by first | rfl | kernel_rfl!) ?_)
  show wpAny _ _ (pyIter (.ref l) >>= _) _ _ _
  refine wpAny_bind (wpAny_pyIter_tuple hl ?_)
  exact wpAny_pure ⟨_, rfl, h⟩
section
variable {Γ : Gam} {k j n : Nat} {X : Cx} {W : WX} {N ps : List Str} {x qual : Str} {params : Arguments} {scope : Scope} {kws : List (Str × V)} {f : Addr} {fd : FuncData} {e : Expr} {b : Env → Res D} {p1 p2 p3 : Pos}
def ItEnd (Γ : Gam) (outer : List PySem.Env) (H : Hp) (s : Shared) (M : Addr → Prop) (ds : List D) (r : Result) (s' : Shared) : Prop :=
  ∃ (it t : Addr) (xs : List V), r = .ok (.ret (.ref it)) ∧ s.heap.objs.size ≤ it ∧ s'.heap.IsTupleIter it t 0 ∧ CE outer Γ.P Γ.w H s (fun v H' => v = .ref it ∧ H' it = none ∧ Same H H' ∧ TupAt Γ M H' t xs ∧ RpL Γ M H' ds xs) (.ref it) s'
/-- class c has such an __iter__; g: the items, told from the receiver -/
structure CalIt (Γ : Gam) (j : Nat) (c : Nat) (g : List D → Res (List D)) : Prop where
  ex : ∃ f, Meth Γ.K (Γ.cls c) "__iter__" f ∧ ∀ (A : Around) (outer : List PySem.Env) (s : Shared) (H : Hp) (a : Addr) (M : Addr → Prop) (d : D) (ds : List D), Room j A → Env0 Γ.P Γ.w Γ.K Γ.mg Γ.base A outer s H → (∀ a, M a → H a ≠ none) → Rp Γ M H d (.ref a) → g [d] = .ok ds →
    codeAny (model Γ.P Γ.w) A (.call (.ref f) ⟨[.ref a], []⟩) (ItEnd Γ outer H s M ds) s
/-- the items of the tuple that e tells -/
def runIt (N n : Nat) (b : Env → Res D) : List D → Res (List D) := fun ds => if ds.length = n then (match b (enter N ds) with
  | .ok (.tup xs) => .ok xs
  | _ => .stuck) else .stuck
theorem calIt_mk {c : Nat} (F : ∃ fd, FunD Γ.K x qual params [.Return (some (.Call (.Name "iter" p1) [e] [] p2)) p3] scope [] kws f fd) (Mt : Meth Γ.K (Γ.cls c) "__iter__" f) (S : FnScope N ps scope) (T : Top Γ) (hm : Γ.mg "iter" = none)
    (hg : ∀ cdv A outer s H E, Gl (Xb Γ N qual scope f cdv A outer s H E) "iter") (he : ∀ cdv A outer s H E, starEach [e] (Xb Γ N qual scope f cdv A outer s H E).env = (false, eval e (Xb Γ N qual scope f cdv A outer s H E).env) :: starEach [] (Xb Γ N qual scope f cdv A outer s H E).env)
    (hpl : ∀ cdv A outer s H E, (backTo p2 (starEach [] (Xb Γ N qual scope f cdv A outer s H E).env)).any (·.1) = false)
    (hb : ∀ cdv A outer s H E, DE Γ k (Xb Γ N qual scope f cdv A outer s H E) (Wb E) e b) (hB : BindN x qual params [.Return (some (.Call (.Name "iter" p1) [e] [] p2)) p3] scope ps) (hp : ps.length = 1 := by rfl) (hn : 1 ≤ N.length := by decide) : CalIt Γ (k + 1) c (runIt N.length 1 b) := by
  refine ⟨f, Mt, fun A outer s H a M d ds hr e0 hM rd hgd => ?_⟩
  obtain ⟨fd, F⟩ := F
  have hbd := F.bindsN hB
  obtain ⟨oc, od, dV, kV, doc, pm, an, cdv, ct, osl, rfl, lk, hcd, _, _⟩ := F.ex
  have KX : Γ.K.In s.heap := e0.mod.kin.keeps fun b o e => (e0.bs b o e).1
  have lim : s.heap.NoLimit := e0.mod.nolimit.keeps fun b o e => (e0.bs b o e).1
  have r2 : Vals [V.ref a] [Value.ref a] := .cons rfl .nil
  have hl : ([V.ref a] : List V).length = ps.length := hp.symm
  have hkind : ∀ y ∈ ps.zip [Value.ref a], scope.names.lookup y.1 = some .local ∨ (scope.names.lookup y.1 = some .cell ∧ ((PySem.cellsFrom (s.heap.objs.size + 1) scope.names []).lookup y.1).isSome = true) := fun ⟨n, v⟩ hy => by
    rcases S.par n (List.of_mem_zip hy).1 with q | q
    · exact .inl q
    · exact .inr ⟨q, PySem.W.cellsFrom_some _ _ _ (.inl q)⟩
  have bt := hbd s [Value.ref a] KX (by rw [List.append_nil]; exact hl)
  rw [List.append_nil] at bt
  refine codeAny_call_function hr.depth (KX _ _ lk) rfl S.co S.gen rfl (PySem.W.codeRec_of KX hcd) (bt _ _ _ _ ?_)
  refine PySem.wpAny_newFunctionEnv_cells S.kind hkind fun env he1 s1 xx => ?_
  subst he1
  refine ⟨lim.keeps xx.toInCall.keep, codeAny_func ?_⟩
  have I : Inv (Xb Γ N qual scope f cdv A outer s H fun _ _ _ => False) [] (L2.start N [.ref a]) H s1 := inv_start S hr.hd e0 hl r2 xx
  have St := sit_body (E := fun _ _ _ => False) (outer := outer) (H := H) (s := s) T S (hr.deeper (PyProof.Rows.envOfC qual scope s.heap.objs.size f cdv))
  have G : Gd Γ { M := M, x := 0, dx := 0 } H (L2.start N [.ref a]) H (enter N.length [d]) := gd_enter hM (.cons rd .nil) hn
  obtain ⟨te, pe, re⟩ := hb cdv A outer s H (fun _ _ _ => False) St
  unfold runIt at hgd
  rw [if_pos (show [d].length = 1 from rfl)] at hgd
  have hbo : b (enter N.length [d]) = .ok (.tup ds) := by
    cases q : b (enter N.length [d]) with
    | stuck => rw [q] at hgd; cases hgd
    | exc y => rw [q] at hgd; cases hgd
    | ok z =>
      rw [q] at hgd
      cases z <;> first | (cases hgd; done) | skip
      dsimp only at hgd
      cases hgd
      rfl
  have hte := re { M := M, x := 0, dx := 0 } H _ H _ (fun v H' => ∃ t xs, v = .ref t ∧ Same H H' ∧ TupAt Γ M H' t xs ∧ RpL Γ M H' ds xs) G (by
    rw [hbo]
    intro v H' e r
    rw [Rp] at r
    obtain ⟨t, xs, rfl, h1, h2⟩ := r
    exact ⟨t, xs, rfl, e, h1.imp (.weak fun a z => .inl z), RpL.imp (.weak fun a z => .inl z) _ _ h2⟩)
  refine wpAny_execs_cons (wpAny_Return_some ?_)
  have hmX : (Xb Γ N qual scope f cdv A outer s H fun _ _ _ => False).mg "iter" = none := hm
  have hv : bootBuiltins "iter" = some (.builtin "iter") := by decide +kernel
  refine PySem.wpAny_Call_Name_kw (ld_blt I (hg cdv A outer s H fun _ _ _ => False) hmX hv ?_)
  refine PyProof.Rows.callWith_builtin1 ?_ (he cdv A outer s H fun _ _ _ => False) (hpl cdv A outer s H fun _ _ _ => False)
  refine wpAny_mono ((pa_cons pe pa_nil (he cdv A outer s H fun _ _ _ => False)).run p2 [] s1 _ H (fun vs H' => ∃ t xs, vs = [.ref t] ∧ Same H H' ∧ TupAt Γ M H' t xs ∧ RpL Γ M H' ds xs) I (show te _ H _ from ?_)) (fun us s2 ⟨vs, H1, I1, r1, t, xs, wp_walk, sm, ta, rl⟩ => ?_) fun e s' z => ?_
  · refine re { M := M, x := 0, dx := 0 } H _ H _ _ G ?_
    rw [hbo]
    intro v H' e r
    rw [Rp] at r
    obtain ⟨t, xs, rfl, h1, h2⟩ := r
    exact ⟨t, xs, rfl, e, h1.imp (.weak fun a z => .inl z), RpL.imp (.weak fun a z => .inl z) _ _ h2⟩
  · subst wp_walk
    obtain ⟨u, rfl, ru⟩ := vals1 r1
    cases ru
    obtain ⟨its, rv, pt, hz⟩ := I1.tuple (show SqT Γ.K H1 t xs from ta.sq)
    refine call_iterT (show s2.heap.IsTuple t its.toArray from pt) ?_
    have I2 : Inv (Xb Γ N qual scope f cdv A outer s H fun _ _ _ => False) [] (L2.start N [.ref a]) H1 { s2 with heap := s2.heap.push { cls := .type "tuple_iterator", data := .fields #[.ref t, .int 0 0] } } := I1.kept (t' := s2.toks) fun b o q => Heap.get?_push_of_some _ q
    exact ⟨s2.heap.objs.size, t, xs, rfl, I1.sz, ⟨_, Heap.get?_push_size _ rfl, rfl, rfl⟩, .ref s2.heap.objs.size, H1, I2.os, I2.bare, I2.base, I2.hok, rfl, rfl, I1.hok.fresh (Nat.le_refl _), sm, ta, rl⟩
  · have no : ∀ {u : Value} {s'' : Shared} {Z : Prop}, L2.CX Γ.P Γ.w outer H s (fun _ _ _ => False) u s'' → Z := fun q => by
      obtain ⟨_, _, _, _, _, _, _, _, _, _, _, _, hE⟩ := q
      exact hE.elim
    exact wpAny_mono z (fun _ _ q => no q) fun _ _ q => no q
/-- what the object walks -/
def Z.iterO (c : Nat) (g : List D → Res (List D)) (f : Env → Res D) : Env → Res (List D) := fun ρ => (f ρ).bind fun x => match x with
  | .obj c' fs => if c' = c then (match g [.obj c' fs] with
    | .ok ds => .ok ds
    | _ => .stuck) else .stuck
  | _ => .stuck
theorem di_own {c : Nat} {y : Str} {g : List D → Res (List D)} {tg a : Expr} {fo : Env → Res D} (K : ClsOk Γ c y) (C : CalIt Γ j c g) (ha : DE Γ k X W a fo) (hk : 0 < k := by first | decide | omega) (hj : j ≤ k := by first | decide | omega) : DI Γ k X W tg a (Z.iterO c g fo) := fun S => by
  obtain ⟨ta, pa, ra⟩ := ha S
  obtain ⟨f, mt, run⟩ := C.ex
  refine ⟨fun σ H R => ta σ H fun v H1 => ∃ (a' : Addr) (dx : Addr) (us : List (Str × V)) (M : Addr → Prop) (d : D) (ds : List D), v = .ref a' ∧ H1 a' = some (.ins (Γ.cls c) dx us) ∧ (∀ a, M a → H1 a ≠ none) ∧ Rp Γ M H1 d (.ref a') ∧ g [d] = .ok ds ∧ ∀ t xs H2, Same H1 H2 → TupAt Γ M H2 t xs → RpL Γ M H2 ds xs → R (Itt Γ.K t) H2,
    ⟨fun pins s σ H R I h => ?_⟩, fun M0 H0 σ H ρ R G h => ?_⟩
  · refine thn (pa.run pins s σ H _ I h) fun u s1 ⟨v, H1, I1, r1, a', dx, us, M, d, ds, wp_walk, h1, hM, rd, hgd, w⟩ => ?_
    subst wp_walk
    cases r1
    obtain ⟨mA, J, _⟩ := ins_get I1.hok h1
    obtain ⟨od, J, _⟩ := J.look
    obtain ⟨m, hF⟩ := I1.fr
    have e0 := I1.env0
    rw [S.P, S.w, S.K, S.mg, S.base] at e0
    refine PySem.W.owit_iter hF I1.ok.mod.kin J (by rw [S.K]; exact mt.at_) (by rw [S.K]; exact mt.fn) ?_
    rw [S.P, S.w]
    refine wpAny_call (codeAny_mono (run X.A X.stack s1 H1 a' M d ds (S.room' hk hj) e0 hM rd hgd) fun r s' hq => ?_)
    obtain ⟨it, t, xs, rfl, hle, hit, ce⟩ := hq
    rw [← S.P, ← S.w] at ce ⊢
    have ce' := ce
    obtain ⟨v, H', I', rv, wp_walk, fr, sm, tt, rl⟩ := I1.after ce
    subst wp_walk
    have hT : s'.TypeIs (.ref it) "tuple_iterator" := by
      obtain ⟨o, ho, hc, _⟩ := hit
      exact ⟨o, ho, hc⟩
    refine wpAny_specialOf hT F.slot_tuple_iterator_next.lookup ?_
    refine ⟨it, [it], _, _, H', rfl, I', turn_tuple t it, hit, fun b hb => ?_, ?_⟩
    · have e : b = it := by simpa using hb
      subst e
      exact I1.fpOk hle fr
    · rw [S.K]
      exact w t xs H' sm tt rl
  · refine ra M0 H0 σ H ρ _ G ((Post.bind h).imp (Same.refl H) fun d w v H1 e1 r => ?_)
    cases d with
    | obj c' fs =>
      dsimp only at w
      split at w
      · rename_i e
        subst e
        obtain ⟨a', dx, us, rfl, b1, _⟩ := obj_at r
        cases q : g [.obj c' fs] with
        | stuck => rw [q] at w; exact w.elim
        | exc z => rw [q] at w; exact w.elim
        | ok ds =>
          rw [q] at w
          have w : WantI Γ (Mx M0 σ ρ) H R ds := w
          refine ⟨a', dx, us, Mx M0 σ ρ, _, ds, rfl, b1, fun a z => Mx.alive (G.mono e1) z, r, q, fun t xs H2 sm tt rl => ?_⟩
          exact WantQ.walk w (e1.trans sm) rl walk_tup fun M' H' im => (tt.imp im).sq
      · exact (show False from w).elim
    | _ => exact (show False from w).elim
end
-- the turns of a while: the length of the list or tuple in the i-th slot, and one
def fuelL (i : Nat) : Env → Nat := fun ρ => match ρ[i]? with
  | some (.val (.lst xs)) => xs.length + 1
  | some (.val (.tup xs)) => xs.length + 1
  | _ => 0
set_option Elab.async false
set_option linter.all false
set_option maxRecDepth 100000
set_option maxHeartbeats 4000000
/-! ### == of tuples whose items have an own == -/
open PySem L2
def allB (f : Nat → Bool) (n : Nat) : Bool := (List.range n).all f
theorem allB_succ (f : Nat → Bool) (n : Nat) : allB f (n + 1) = (allB f n && f n) := by
  unfold allB
  rw [List.range_succ, List.all_append]
  simp
theorem allB_true {f : Nat → Bool} {n : Nat} : allB f n = true ↔ ∀ k, k < n → f k = true := by
  unfold allB
  rw [List.all_eq_true]
  simp
theorem allB_false {f : Nat → Bool} {n i : Nat} (hi : i < n) (h : f i = false) : allB f n = false := by
  cases e : allB f n with
  | false => rfl
  | true => rw [allB_true.mp e i hi] at h; cases h
section
variable {prog : Program} {w : World} {A : Around} {R : Result → Shared → Prop}
theorem tuple_eqB (l b : Addr) (items items2 : Array Value) (n n2 : Nat) (dd dd2 : Option Addr) (sl sl2 : Array (Option Value)) (I : Nat → Shared → Prop) (f : Nat → Bool)
    (turn : ∀ i (h1 : i < items.size) (h2 : i < items2.size) s, (∀ k, k < i → f k = true) → I i s → wpAny (model prog w) A.in1 (eqBool items[i] items2[i]) (fun r s' => r = f i ∧ I (i + 1) s') (fun e s' => R (.error e) s') s)
    (fin : ∀ j s, I j s → R (.ok (.ret (.bool (allB f (min items.size items2.size) && (items.size == items2.size))))) s) {s : Shared} (hl1 : s.heap.get? l = some { cls := .type "tuple", dict := dd, data := .seq items n, slots := sl }) (hb1 : s.heap.get? b = some { cls := .type "tuple", dict := dd2, data := .seq items2 n2, slots := sl2 }) (h : I 0 s) :
    wpAny (model prog w) A.in1 (Builtin.«tuple.__eq__» ⟨[.ref l, .ref b], []⟩) (GQ.FinOf prog w A R) (fun e s' => R (.error e) s') s := by
  have f2 := AutoSeq1.sub_tuple_tuple
  have hZ : (items.toList.zip items2.toList).length = min items.size items2.size := by simp
  have h0 := h
  obtain ⟨hp, g, d, tk, os⟩ := s
  wp_walk using wpAny_loadPart' hl1, wpAny_loadPart' hb1, wpAny_forIn_list _ (fun rest b s' => b.1 = none ∧ ∃ i, rest = (items.toList.zip items2.toList).drop i ∧ i ≤ min items.size items2.size ∧ (∀ k, k < i → f k = true) ∧ I i s') _
  case turn =>
    rintro ⟨y, x⟩ rest b s' ⟨hb', i, hz, hi, hf, hI⟩
    have hlt : i < (items.toList.zip items2.toList).length := by
      rcases Nat.lt_or_ge i (items.toList.zip items2.toList).length with h' | h'
      · exact h'
      · rw [List.drop_of_length_le h'] at hz; cases hz
    have h1 : i < items.size := by omega
    have h2 : i < items2.size := by omega
    rw [List.drop_eq_getElem_cons hlt] at hz
    injection hz with hyx hrest
    have hy : y = items[i] := by have := congrArg Prod.fst hyx; simpa using this
    have hx : x = items2[i] := by have := congrArg Prod.snd hyx; simpa using this
    subst hy hx
    refine wpAny_bind (wpAny_mono (turn i h1 h2 s' hf hI) (fun r s2 q2 => ?_) fun _ _ x => x)
    obtain ⟨hr, q2⟩ := q2
    cases hfi : f i with
    | true =>
      rw [hfi] at hr
      subst hr
      wp_walk
      exact ⟨rfl, i + 1, hrest, by omega, fun k hk => by
        by_cases e : k = i
        · rw [e]; exact hfi
        · exact hf k (by omega), q2⟩
    | false =>
      rw [hfi] at hr
      subst hr
      have hR := fin _ _ q2
      rw [allB_false (show i < min items.size items2.size by omega) hfi, Bool.false_and] at hR
      obtain ⟨hp2, g2, d2, tk2, os2⟩ := s2
      wp_walk
      exact hR
  case fin =>
    rintro ⟨b1, b2⟩ s' ⟨hb', i, hz, hi, hf, hI⟩
    simp only at hb'
    subst hb'
    have hge : min items.size items2.size ≤ i := by
      rcases Nat.lt_or_ge i (items.toList.zip items2.toList).length with h' | h'
      · rw [List.drop_eq_getElem_cons h'] at hz; cases hz
      · omega
    have hR := fin _ _ hI
    rw [allB_true.mpr fun k hk => hf k (by omega), Bool.true_and] at hR
    wp_walk
    simpa [Builtin.Tuple.tupleCompareSizes] using hR
  case h =>
    exact ⟨rfl, 0, rfl, Nat.zero_le _, fun k hk => absurd hk (by omega), h0⟩
theorem tuple_neB (l b : Addr) (items items2 : Array Value) (n n2 : Nat) (dd dd2 : Option Addr) (sl sl2 : Array (Option Value)) (I : Nat → Shared → Prop) (f : Nat → Bool)
    (turn : ∀ i (h1 : i < items.size) (h2 : i < items2.size) s, (∀ k, k < i → f k = true) → I i s → wpAny (model prog w) A.in1 (eqBool items[i] items2[i]) (fun r s' => r = f i ∧ I (i + 1) s') (fun e s' => R (.error e) s') s)
    (fin : ∀ j s, I j s → R (.ok (.ret (.bool (!(allB f (min items.size items2.size) && (items.size == items2.size)))))) s) {s : Shared} (hl1 : s.heap.get? l = some { cls := .type "tuple", dict := dd, data := .seq items n, slots := sl }) (hb1 : s.heap.get? b = some { cls := .type "tuple", dict := dd2, data := .seq items2 n2, slots := sl2 }) (h : I 0 s) :
    wpAny (model prog w) A.in1 (Builtin.«tuple.__ne__» ⟨[.ref l, .ref b], []⟩) (GQ.FinOf prog w A R) (fun e s' => R (.error e) s') s := by
  have f2 := AutoSeq1.sub_tuple_tuple
  have hZ : (items.toList.zip items2.toList).length = min items.size items2.size := by simp
  have h0 := h
  obtain ⟨hp, g, d, tk, os⟩ := s
  wp_walk using wpAny_loadPart' hl1, wpAny_loadPart' hb1, wpAny_forIn_list _ (fun rest b s' => b.1 = none ∧ ∃ i, rest = (items.toList.zip items2.toList).drop i ∧ i ≤ min items.size items2.size ∧ (∀ k, k < i → f k = true) ∧ I i s') _
  case turn =>
    rintro ⟨y, x⟩ rest b s' ⟨hb', i, hz, hi, hf, hI⟩
    have hlt : i < (items.toList.zip items2.toList).length := by
      rcases Nat.lt_or_ge i (items.toList.zip items2.toList).length with h' | h'
      · exact h'
      · rw [List.drop_of_length_le h'] at hz; cases hz
    have h1 : i < items.size := by omega
    have h2 : i < items2.size := by omega
    rw [List.drop_eq_getElem_cons hlt] at hz
    injection hz with hyx hrest
    have hy : y = items[i] := by have := congrArg Prod.fst hyx; simpa using this
    have hx : x = items2[i] := by have := congrArg Prod.snd hyx; simpa using this
    subst hy hx
    refine wpAny_bind (wpAny_mono (turn i h1 h2 s' hf hI) (fun r s2 q2 => ?_) fun _ _ x => x)
    obtain ⟨hr, q2⟩ := q2
    cases hfi : f i with
    | true =>
      rw [hfi] at hr
      subst hr
      wp_walk
      exact ⟨rfl, i + 1, hrest, by omega, fun k hk => by
        by_cases e : k = i
        · rw [e]; exact hfi
        · exact hf k (by omega), q2⟩
    | false =>
      rw [hfi] at hr
      subst hr
      have hR := fin _ _ q2
      rw [allB_false (show i < min items.size items2.size by omega) hfi, Bool.false_and] at hR
      obtain ⟨hp2, g2, d2, tk2, os2⟩ := s2
      wp_walk
      exact hR
  case fin =>
    rintro ⟨b1, b2⟩ s' ⟨hb', i, hz, hi, hf, hI⟩
    simp only at hb'
    subst hb'
    have hge : min items.size items2.size ≤ i := by
      rcases Nat.lt_or_ge i (items.toList.zip items2.toList).length with h' | h'
      · rw [List.drop_eq_getElem_cons h'] at hz; cases hz
      · omega
    have hR := fin _ _ hI
    rw [allB_true.mpr fun k hk => hf k (by omega), Bool.true_and] at hR
    wp_walk
    have e : (items.size != items2.size) = !(items.size == items2.size) := rfl
    simpa [Builtin.Tuple.tupleCompareSizes, e] using hR
  case h =>
    exact ⟨rfl, 0, rfl, Nat.zero_le _, fun k hk => absurd hk (by omega), h0⟩
end
theorem allB_shift (f : Nat → Bool) (n : Nat) : allB f (n + 1) = (f 0 && allB (fun i => f (i + 1)) n) := by
  unfold allB
  rw [List.range_succ_eq_map, List.all_cons, List.all_map]
  rfl
mutual
def dEq : D → D → Bool
  | .non, .non => true
  | .bl a, .bl b => a == b
  | .int a, .int b => decide (a = b)
  | .str a, .str b => decide (a = b)
  | .tup xs, .tup ys => dEqL xs ys
  | .lst xs, .lst ys => dEqL xs ys
  | .obj _ xs, .obj _ ys => dEqL xs ys
  | _, _ => false
def dEqL : List D → List D → Bool
  | [], [] => true
  | x :: xs, y :: ys => dEq x y && dEqL xs ys
  | _, _ => false
end
section
variable {Γ : Gam} {X : Cx} {pins : List (Addr × Obj)} {σ : St} {H : Hp} {s : Shared} {M : Addr → Prop}
theorem cls_tup (I : Inv X pins σ H s) {a : Addr} {xs : List V} (h : SqT X.K H a xs) : ∃ o, s.heap.get? a = some o ∧ o.cls = .type "tuple" := by
  obtain ⟨its, r, ⟨o, e, hc, _⟩, _⟩ := I.tuple h
  exact ⟨o, e, hc⟩
theorem cls_lst (I : Inv X pins σ H s) {a : Addr} {xs : List V} (h : SqL X.K H a xs) : ∃ o, s.heap.get? a = some o ∧ o.cls = .type "list" := by
  obtain ⟨its, r, p, _⟩ := I.list h
  obtain ⟨o, e, hc, _⟩ := p.isList
  exact ⟨o, e, hc⟩
theorem cls_ins (I : Inv X pins σ H s) {a C dx : Addr} {us : List (Str × V)} (h : H a = some (.ins C dx us)) : ∃ o, s.heap.get? a = some o ∧ o.cls = .ref C := by
  obtain ⟨mA, O, _⟩ := ins_get I.hok h
  exact ⟨_, O.obj, rfl⟩
mutual
theorem rp_same (I : Inv X pins σ H s) (hK : X.K = Γ.K) : ∀ (d d' : D) (v : V), Rp Γ M H d v → Rp Γ M H d' v → dEq d d' = true
  | .non, d', v, h, h' => by
    rw [Rp] at h; subst h
    cases d' <;> rw [Rp] at h' <;> first | rfl | (obtain ⟨_, _, e, _⟩ := h'; cases e; done) | (obtain ⟨_, _, _, e, _⟩ := h'; cases e; done) | (cases h'; done)
  | .bl b, d', v, h, h' => by
    rw [Rp] at h; subst h
    cases d' <;> rw [Rp] at h' <;> first | (obtain ⟨_, _, e, _⟩ := h'; cases e; done) | (obtain ⟨_, _, _, e, _⟩ := h'; cases e; done) | (cases h'; simp [dEq]; done) | (cases h'; done)
  | .int b, d', v, h, h' => by
    rw [Rp] at h; subst h
    cases d' <;> rw [Rp] at h' <;> first | (obtain ⟨_, _, e, _⟩ := h'; cases e; done) | (obtain ⟨_, _, _, e, _⟩ := h'; cases e; done) | (cases h'; simp [dEq]; done) | (cases h'; done)
  | .str b, d', v, h, h' => by
    rw [Rp] at h; subst h
    cases d' <;> rw [Rp] at h' <;> first | (obtain ⟨_, _, e, _⟩ := h'; cases e; done) | (obtain ⟨_, _, _, e, _⟩ := h'; cases e; done) | (cases h'; simp [dEq]; done) | (cases h'; done)
  | .tup ds, d', v, h, h' => by
    rw [Rp] at h
    obtain ⟨a, vs, rfl, t, r⟩ := h
    have t := t.sq
    rw [← hK] at t
    obtain ⟨o, e, hc⟩ := cls_tup I t
    cases d' with
    | tup es =>
      rw [Rp] at h'
      obtain ⟨a', ws, e', t', r'⟩ := h'
      cases e'
      have t' := t'.sq
      rw [← hK] at t'
      have := I.tuple_inj t t'
      subst this
      rw [dEq]
      exact rpl_same I hK ds es vs r r'
    | lst es =>
      rw [Rp] at h'
      obtain ⟨a', ws, e', t', r'⟩ := h'
      cases e'
      have t' := t'.sq
      rw [← hK] at t'
      obtain ⟨o', e', hc'⟩ := cls_lst I t'
      rw [e] at e'
      cases e'
      rw [hc] at hc'
      exact absurd hc' (by decide)
    | obj c es =>
      rw [Rp] at h'
      obtain ⟨a', dx, us, e', hi, _⟩ := h'
      cases e'
      obtain ⟨o', e', hc'⟩ := cls_ins I hi
      rw [e] at e'
      cases e'
      rw [hc] at hc'
      cases hc'
    | _ => rw [Rp] at h'; cases h'
  | .lst ds, d', v, h, h' => by
    rw [Rp] at h
    obtain ⟨a, vs, rfl, t, r⟩ := h
    have t := t.sq
    rw [← hK] at t
    obtain ⟨o, e, hc⟩ := cls_lst I t
    cases d' with
    | lst es =>
      rw [Rp] at h'
      obtain ⟨a', ws, e', t', r'⟩ := h'
      cases e'
      have t' := t'.sq
      rw [← hK] at t'
      have := I.list_inj t t'
      subst this
      rw [dEq]
      exact rpl_same I hK ds es vs r r'
    | tup es =>
      rw [Rp] at h'
      obtain ⟨a', ws, e', t', r'⟩ := h'
      cases e'
      have t' := t'.sq
      rw [← hK] at t'
      obtain ⟨o', e', hc'⟩ := cls_tup I t'
      rw [e] at e'
      cases e'
      rw [hc] at hc'
      exact absurd hc' (by decide)
    | obj c es =>
      rw [Rp] at h'
      obtain ⟨a', dx, us, e', hi, _⟩ := h'
      cases e'
      obtain ⟨o', e', hc'⟩ := cls_ins I hi
      rw [e] at e'
      cases e'
      rw [hc] at hc'
      cases hc'
    | _ => rw [Rp] at h'; cases h'
  | .obj c fs, d', v, h, h' => by
    rw [Rp] at h
    obtain ⟨a, dx, us, rfl, hi, _, _, r⟩ := h
    obtain ⟨o, e, hc⟩ := cls_ins I hi
    cases d' with
    | obj c' gs =>
      rw [Rp] at h'
      obtain ⟨a', dx', us', e', hi', _, _, r'⟩ := h'
      cases e'
      rw [hi] at hi'
      have e2 := Option.some.inj hi'
      injection e2 with e3 e4 e5
      subst e5
      rw [dEq]
      exact rpl_same I hK fs gs _ r r'
    | tup es =>
      rw [Rp] at h'
      obtain ⟨a', ws, e', t', r'⟩ := h'
      cases e'
      have t' := t'.sq
      rw [← hK] at t'
      obtain ⟨o', e', hc'⟩ := cls_tup I t'
      rw [e] at e'
      cases e'
      rw [hc] at hc'
      cases hc'
    | lst es =>
      rw [Rp] at h'
      obtain ⟨a', ws, e', t', r'⟩ := h'
      cases e'
      have t' := t'.sq
      rw [← hK] at t'
      obtain ⟨o', e', hc'⟩ := cls_lst I t'
      rw [e] at e'
      cases e'
      rw [hc] at hc'
      cases hc'
    | _ => rw [Rp] at h'; cases h'
theorem rpl_same (I : Inv X pins σ H s) (hK : X.K = Γ.K) : ∀ (ds es : List D) (vs : List V), RpL Γ M H ds vs → RpL Γ M H es vs → dEqL ds es = true
  | [], [], _, _, _ => by rw [dEqL]
  | [], _ :: _, vs, h, h' => by
    rw [RpL] at h
    rw [RpL] at h'
    subst h
    obtain ⟨_, _, e, _⟩ := h'
    cases e
  | _ :: _, [], vs, h, h' => by
    rw [RpL] at h
    rw [RpL] at h'
    subst h'
    obtain ⟨_, _, e, _⟩ := h
    cases e
  | d :: ds, e :: es, vs, h, h' => by
    rw [RpL] at h
    rw [RpL] at h'
    obtain ⟨v, t, rfl, h1, h2⟩ := h
    obtain ⟨v', t', e', h3, h4⟩ := h'
    cases e'
    rw [dEqL, rp_same I hK d e v h1 h3, rpl_same I hK ds es t h2 h4]
    rfl
end
end
/-! items that are compared -/
structure EqI (Γ : Gam) (n : Nat) (E : D → D → Res Bool) : Prop where
  run : ∀ {k : Nat} {X : Cx} {W : WX}, Sit Γ k X W → ∀ (A : Around) (pins : List (Addr × Obj)) (s : Shared) (σ : St) (H : Hp) (M : Addr → Prop) (x y : D) (v u : V) (a b : Value) (r : Bool), Room n A → A.frames = X.A.frames → Inv X pins σ H s → RelV v a → RelV u b → (∀ a, M a → H a ≠ none) → Rp Γ M H x v → Rp Γ M H y u → E x y = .ok r →
    wpAny (model X.prog X.w) A (eqBool a b) (fun z s' => z = r ∧ ∃ H', Inv X pins σ H' s' ∧ Same H H') X.xe s
  same : ∀ {X : Cx} {pins : List (Addr × Obj)} {σ : St} {H : Hp} {s : Shared} {M : Addr → Prop} {x y : D} {v : V} {r : Bool}, Inv X pins σ H s → X.K = Γ.K → Rp Γ M H x v → Rp Γ M H y v → E x y = .ok r → r = true
def eqFlat (x y : D) : Res Bool := if flatD x = true ∧ flatD y = true then .ok (eqV (toV x) (toV y)) else .stuck
def eqObj (c : Nat) (g : List D → Res D) (x y : D) : Res Bool := match x, y with
  | .obj c1 fs, .obj c2 gs => if c1 = c ∧ c2 = c then (match g [.obj c1 fs, .obj c2 gs] with
    | .ok (.bl true) => .ok true
    | .ok (.bl false) => if dEqL fs gs = true then .stuck else .ok false
    | _ => .stuck) else .stuck
  | _, _ => .stuck
def eqTupL (E : D → D → Res Bool) : List D → List D → Res Bool
  | [], [] => .ok true
  | [], _ :: _ => .ok false
  | _ :: _, [] => .ok false
  | x :: xs, y :: ys => (E x y).bind fun b => if b = true then eqTupL E xs ys else .ok false
def eqTup (E : D → D → Res Bool) (x y : D) : Res Bool := match x, y with
  | .tup xs, .tup ys => eqTupL E xs ys
  | _, _ => .stuck
def fAt (E : D → D → Res Bool) (xs ys : List D) (i : Nat) : Bool := match xs[i]?, ys[i]? with
  | some x, some y => (match E x y with
    | .ok b => b
    | _ => false)
  | _, _ => false
theorem eqTupL_spec {E : D → D → Res Bool} : ∀ {xs ys : List D} {r : Bool}, eqTupL E xs ys = .ok r →
    (∀ i x y, xs[i]? = some x → ys[i]? = some y → (∀ k, k < i → fAt E xs ys k = true) → E x y = .ok (fAt E xs ys i)) ∧ r = (allB (fAt E xs ys) (min xs.length ys.length) && decide (xs.length = ys.length))
  | [], [], r, h => by
    cases h
    exact ⟨fun i x y h1 => by simp at h1, rfl⟩
  | [], _ :: _, r, h => by
    cases h
    exact ⟨fun i x y h1 => by simp at h1, by simp⟩
  | _ :: _, [], r, h => by
    cases h
    exact ⟨fun i x y _ h1 => by simp at h1, by simp⟩
  | x :: xs, y :: ys, r, h => by
    rw [eqTupL] at h
    cases q : E x y with
    | stuck => rw [q] at h; cases h
    | exc z => rw [q] at h; cases h
    | ok b =>
      rw [q, Res.bind_ok] at h
      have f0 : fAt E (x :: xs) (y :: ys) 0 = b := by
        unfold fAt
        rw [List.getElem?_cons_zero, List.getElem?_cons_zero]
        dsimp only
        rw [q]
      have fs : ∀ i, fAt E (x :: xs) (y :: ys) (i + 1) = fAt E xs ys i := fun i => by
        unfold fAt
        rw [List.getElem?_cons_succ, List.getElem?_cons_succ]
      have hm : min (x :: xs).length (y :: ys).length = min xs.length ys.length + 1 := by simp
      cases b with
      | false =>
        rw [if_neg Bool.false_ne_true] at h
        cases h
        refine ⟨fun i x' y' h1 h2 h3 => ?_, ?_⟩
        · cases i with
          | zero =>
            rw [List.getElem?_cons_zero] at h1 h2
            cases h1
            cases h2
            rw [f0, q]
          | succ i =>
            have := h3 0 (by omega)
            rw [f0] at this
            cases this
        · rw [allB_false (i := 0) (by rw [hm]; omega) f0]
          rfl
      | true =>
        rw [if_pos rfl] at h
        obtain ⟨p1, p2⟩ := eqTupL_spec h
        refine ⟨fun i x' y' h1 h2 h3 => ?_, ?_⟩
        · cases i with
          | zero =>
            rw [List.getElem?_cons_zero] at h1 h2
            cases h1
            cases h2
            rw [f0, q]
          | succ i =>
            rw [List.getElem?_cons_succ] at h1 h2
            rw [fs]
            exact p1 i x' y' h1 h2 fun k hk => by rw [← fs]; exact h3 (k + 1) (by omega)
        · have e1 : allB (fAt E xs ys) (min xs.length ys.length) = allB (fun i => fAt E (x :: xs) (y :: ys) (i + 1)) (min xs.length ys.length) := by
            rw [show (fun i => fAt E (x :: xs) (y :: ys) (i + 1)) = fAt E xs ys from funext fs]
          have e2 : decide (xs.length = ys.length) = decide ((x :: xs).length = (y :: ys).length) := by simp
          rw [hm, allB_shift, f0, Bool.true_and, p2, e1, e2]
section
variable {Γ : Gam} {k j n : Nat} {X : Cx} {W : WX}
theorem eqV_toV : ∀ d : D, flatD d = true → eqV (toV d) (toV d) = true
  | .non, _ => rfl
  | .bl _, _ => by simp [toV, eqV]
  | .int _, _ => by simp [toV, eqV]
  | .str _, _ => by simp [toV, eqV]
  | .tup _, h => by cases h
  | .lst _, h => by cases h
  | .obj _ _, h => by cases h
theorem eqI_flat : EqI Γ 0 eqFlat where
  run := fun S A pins s σ H M x y v u a b r rm hf I rv ru hM rx ry h => by
    unfold eqFlat at h
    split at h
    · rename_i c
      cases h
      obtain ⟨rfl, f1⟩ := rp_flat c.1 rx
      obtain ⟨rfl, f2⟩ := rp_flat c.2 ry
      exact eqAt_V (A := A) (s := s) rv ru f1 f2 _ _ _ _ ⟨rfl, H, I, Same.refl H⟩
    · cases h
  same := fun I hK rx ry h => by
    unfold eqFlat at h
    split at h
    · rename_i c
      cases h
      obtain ⟨e1, f1⟩ := rp_flat c.1 rx
      obtain ⟨e2, f2⟩ := rp_flat c.2 ry
      rw [← e2, e1]
      exact eqV_toV _ c.1
    · cases h
theorem EqI.mono {E : D → D → Res Bool} {m : Nat} (h : EqI Γ n E) (hn : n ≤ m) : EqI Γ m E := ⟨fun S A pins s σ H M x y v u a b r rm => h.run S A pins s σ H M x y v u a b r (rm.mono hn), h.same⟩
theorem eqI_obj {c : Nat} {g : List D → Res D} {y : Str} (K : ClsOk Γ c y) (O : CalM Γ n c "__eq__" g) : EqI Γ n (eqObj c g) where
  run := fun {k X W} S A pins s σ H M x y v u a b r rm hf I rv ru hM rx ry h => by
    have h' := h
    unfold eqObj at h
    split at h
    · rename_i c1 fs c2 gs
      split at h
      · rename_i hc
        obtain ⟨rfl, rfl⟩ := hc
        obtain ⟨p, dx, us, rfl, b1, _⟩ := obj_at rx
        obtain ⟨q, dy, ws, rfl, b2, _⟩ := obj_at ry
        cases rv
        cases ru
        by_cases hpq : p = q
        · subst hpq
          have e := rp_same I S.K _ _ _ rx ry
          rw [dEq] at e
          have : r = true := by
            split at h
            · cases h; rfl
            · rw [if_pos e] at h; cases h
            · cases h
          subst this
          exact PySem.SeqAt.EqAt.same (A := A) (s := s) (.ref p) _ _ _ _ ⟨rfl, H, I, Same.refl H⟩
        · have hg : g [.obj c2 fs, .obj c2 gs] = .ok (.bl r) := by
            split at h
            · rename_i e; cases h; exact e
            · rename_i e
              split at h
              · cases h
              · cases h; exact e
            · cases h
          refine GQ.eqBool_refG hpq ?_
          obtain ⟨fn, mt, cal⟩ := O.ex
          obtain ⟨m2, F2⟩ := I.fr
          obtain ⟨_, _, J⟩ := ins_at I b1
          obtain ⟨_, _, J'⟩ := ins_at I b2
          refine PySem.W.cmp_K (op := .Eq) (tb := .ref (Γ.cls c2)) rm.units0 F2 I.ok.mod.kin J J'.type (by simp [PySem.W.notFirst]) (by rw [S.K]; exact mt.at_) (by rw [S.K]; exact mt.fn) ?_
          refine thn (cal.runA (W := W) (us := [Value.ref p, Value.ref q]) (vs := [V.ref p, V.ref q]) (Q := fun v H' => v = .bl r ∧ Same H H') S hf rm I (.cons rfl (.cons rfl .nil)) hM (.cons rx (.cons ry .nil)) (show Post Γ W σ H (g [.obj c2 fs, .obj c2 gs]) _ by
            rw [hg]
            intro v H' e rr
            rw [Rp] at rr
            exact ⟨rr, e⟩)) fun z s' w => ?_
          obtain ⟨v', H', I', rv, rfl, e⟩ := w
          cases rv
          exact ⟨r, rfl, rfl, H', I', e⟩
      · cases h
    · cases h
  same := fun I hK rx ry h => by
    unfold eqObj at h
    split at h
    · rename_i c1 fs c2 gs
      split at h
      · have e := rp_same I hK _ _ _ rx ry
        rw [dEq] at e
        split at h
        · cases h; rfl
        · rw [if_pos e] at h; cases h
        · cases h
      · cases h
    · cases h
theorem tup_turn {E : D → D → Res Bool} (O : EqI Γ n E) (S : Sit Γ k X W) {A : Around} (rm : Room n A) (hf : A.frames = X.A.frames) {pins : List (Addr × Obj)} {σ : St} {H : Hp} {M : Addr → Prop} {xs ys : List D} {us ws : List V} {its its2 : List Value} {r : Bool}
    (hM : ∀ a, M a → H a ≠ none) (r1 : RpL Γ M H xs us) (r2 : RpL Γ M H ys ws) (v1 : Vals us its) (v2 : Vals ws its2) (h : eqTupL E xs ys = .ok r) (i : Nat) (h1 : i < its.toArray.size) (h2 : i < its2.toArray.size) (s' : Shared) (hp : ∀ k, k < i → fAt E xs ys k = true) (l : ∃ H', Inv X pins σ H' s' ∧ Same H H') :
    wpAny (model X.prog X.w) A (eqBool its.toArray[i] its2.toArray[i]) (fun z s2 => z = fAt E xs ys i ∧ ∃ H', Inv X pins σ H' s2 ∧ Same H H') X.xe s' := by
  obtain ⟨H1, I1, e1⟩ := l
  have g1 : its[i]? = some its.toArray[i] := by
    have h1' : i < its.length := by simpa using h1
    rw [List.getElem?_eq_getElem h1'] <;> simp
  have g2 : its2[i]? = some its2.toArray[i] := by
    have h2' : i < its2.length := by simpa using h2
    rw [List.getElem?_eq_getElem h2'] <;> simp
  have k1 : i < us.length := by rw [v1.length]; simpa using h1
  have k2 : i < ws.length := by rw [v2.length]; simpa using h2
  obtain ⟨u, hu, ru⟩ := v1.get (List.getElem?_eq_getElem k1)
  obtain ⟨v, hv, rv⟩ := v2.get (List.getElem?_eq_getElem k2)
  rw [g1] at hu
  rw [g2] at hv
  rw [Option.some.inj hu, Option.some.inj hv]
  have l1 : i < xs.length := by rw [← r1.length]; exact k1
  have l2 : i < ys.length := by rw [← r2.length]; exact k2
  obtain ⟨a, ea, qa⟩ := (r1.mono e1).get (List.getElem?_eq_getElem l1)
  obtain ⟨b, eb, qb⟩ := (r2.mono e1).get (List.getElem?_eq_getElem l2)
  rw [List.getElem?_eq_getElem k1] at ea
  rw [List.getElem?_eq_getElem k2] at eb
  cases ea
  cases eb
  have hE := (eqTupL_spec h).1 i _ _ (List.getElem?_eq_getElem l1) (List.getElem?_eq_getElem l2) hp
  refine wpAny_mono (O.run S A pins s' σ H1 M _ _ _ _ u v _ rm hf I1 ru rv (fun a z e => hM a z (by cases e2 : H a with | none => rfl | some o => rw [e1 a o e2] at e; cases e)) qa qb hE) (fun z s2 q => ?_) fun _ _ x => x
  obtain ⟨hz, H2, I2, e2⟩ := q
  exact ⟨hz, H2, I2, e1.trans e2⟩
theorem rc_tup {E : D → D → Res Bool} (O : EqI Γ n E) (neg : Bool) (S : Sit Γ k X W) {A : Around} (rm : Room (n + 1) A) (hf : A.frames = X.A.frames) {pins : List (Addr × Obj)} {s : Shared} {σ : St} {H : Hp} {M : Addr → Prop} {xs ys : List D} {p q : Addr} {us ws : List V} {r : Bool}
    (I : Inv X pins σ H s) (hM : ∀ a, M a → H a ≠ none) (t1 : SqT X.K H p us) (t2 : SqT X.K H q ws) (r1 : RpL Γ M H xs us) (r2 : RpL Γ M H ys ws) (h : eqTupL E xs ys = .ok r) :
    wpAny (model X.prog X.w) A (richCompare (if neg = true then .NotEq else .Eq) (.ref p) (.ref q)) (fun z s' => z = .bool (if neg = true then !r else r) ∧ ∃ H', Inv X pins σ H' s' ∧ Same H H') X.xe s := by
  obtain ⟨its, v1, p1, _⟩ := I.tuple t1
  obtain ⟨its2, v2, p2, _⟩ := I.tuple t2
  obtain ⟨⟨cls, dd, data, sl⟩, ho, hc, n1, hd⟩ := id p1
  obtain ⟨⟨cls2, dd2, data2, sl2⟩, ho2, hc2, n2, hd2⟩ := id p2
  simp only at hc hd hc2 hd2
  subst hc hd hc2 hd2
  have hr : r = (allB (fAt E xs ys) (min its.toArray.size its2.toArray.size) && (its.toArray.size == its2.toArray.size)) := by
    rw [(eqTupL_spec h).2, List.size_toArray, List.size_toArray, ← v1.length, ← v2.length, r1.length, r2.length]
    congr 1
  have turn := fun (i : Nat) (h1 : i < its.toArray.size) (h2 : i < its2.toArray.size) (s' : Shared) (hp : ∀ k, k < i → fAt E xs ys k = true) (l : ∃ H', Inv X pins σ H' s' ∧ Same H H') => tup_turn O S rm.in1 hf hM r1 r2 v1 v2 h i h1 h2 s' hp l
  cases neg with
  | false =>
    refine wpAny_richCompare_same_room (op := .Eq) ⟨_, ho, rfl⟩ ⟨_, ho2, rfl⟩ F.slot_tuple_eq (GQ.call_here F.slot_tuple_eq ⟨_, ho, rfl⟩ F.entry_tuple_eq (F.args_tuple_eq_2 _ _) ?_) rm.units0
    refine tuple_eqB p q its.toArray its2.toArray n1 n2 dd dd2 sl sl2 (fun _ s' => ∃ H', Inv X pins σ H' s' ∧ Same H H') (fAt E xs ys) turn (fun j s' l => ?_) ho ho2 ⟨H, I, Same.refl H⟩
    rw [← hr]
    exact ⟨(fun x => nomatch x), rfl, l⟩
  | true =>
    refine wpAny_richCompare_same_room (op := .NotEq) ⟨_, ho, rfl⟩ ⟨_, ho2, rfl⟩ F.slot_tuple_ne (GQ.call_here F.slot_tuple_ne ⟨_, ho, rfl⟩ F.entry_tuple_ne (F.args_tuple_ne_2 _ _) ?_) rm.units0
    refine tuple_neB p q its.toArray its2.toArray n1 n2 dd dd2 sl sl2 (fun _ s' => ∃ H', Inv X pins σ H' s' ∧ Same H H') (fAt E xs ys) turn (fun j s' l => ?_) ho ho2 ⟨H, I, Same.refl H⟩
    rw [← hr]
    exact ⟨(fun x => nomatch x), rfl, l⟩
theorem eqI_tup {E : D → D → Res Bool} (O : EqI Γ n E) : EqI Γ (n + 1) (eqTup E) where
  run := fun {k X W} S A pins s σ H M x y v u a b r rm hf I rv ru hM rx ry h => by
    have h0 := h
    unfold eqTup at h
    split at h
    · rename_i xs ys
      rw [Rp] at rx ry
      obtain ⟨p, us, rfl, t1, r1⟩ := rx
      obtain ⟨q, ws, rfl, t2, r2⟩ := ry
      have t1 := t1.sq
      have t2 := t2.sq
      rw [← S.K] at t1 t2
      cases rv
      cases ru
      by_cases hpq : p = q
      · subst hpq
        have e := I.tuple_inj t1 t2
        subst e
        have : r = true := by
          rw [(eqTupL_spec h).2, show xs.length = ys.length by rw [← r1.length, ← r2.length]]
          rw [Nat.min_self, decide_eq_true rfl, Bool.and_true]
          refine allB_true.mpr fun i => ?_
          induction i using Nat.strongRecOn with
          | _ i ih =>
            intro hi
            have l1 : i < xs.length := by rw [← r1.length, r2.length]; exact hi
            obtain ⟨v1, e1, q1⟩ := r1.get (List.getElem?_eq_getElem l1)
            obtain ⟨v2, e2, q2⟩ := r2.get (List.getElem?_eq_getElem hi)
            rw [e1] at e2
            cases e2
            exact O.same I S.K q1 q2 ((eqTupL_spec h).1 i _ _ (List.getElem?_eq_getElem l1) (List.getElem?_eq_getElem hi) fun k hk => ih k hk (by omega))
        subst this
        exact PySem.SeqAt.EqAt.same (A := A) (s := s) (.ref p) _ _ _ _ ⟨rfl, H, I, Same.refl H⟩
      · refine GQ.eqBool_refG hpq (wpAny_mono (rc_tup O false S rm hf I hM t1 t2 r1 r2 h) (fun z s' w => ?_) fun _ _ x => x)
        exact ⟨r, w.1, rfl, w.2⟩
    · cases h
  same := fun {X pins σ H s M x y v r} I hK rx ry h => by
    unfold eqTup at h
    split at h
    · rename_i xs ys
      rw [Rp] at rx ry
      obtain ⟨p, us, rfl, t1, r1⟩ := rx
      obtain ⟨q, ws, e, t2, r2⟩ := ry
      cases e
      have t1 := t1.sq
      have t2 := t2.sq
      rw [← hK] at t1 t2
      have e := I.tuple_inj t1 t2
      subst e
      rw [(eqTupL_spec h).2, show xs.length = ys.length by rw [← r1.length, ← r2.length]]
      rw [Nat.min_self, decide_eq_true rfl, Bool.and_true]
      refine allB_true.mpr fun i => ?_
      induction i using Nat.strongRecOn with
      | _ i ih =>
        intro hi
        have l1 : i < xs.length := by rw [← r1.length, r2.length]; exact hi
        obtain ⟨v1, e1, q1⟩ := r1.get (List.getElem?_eq_getElem l1)
        obtain ⟨v2, e2, q2⟩ := r2.get (List.getElem?_eq_getElem hi)
        rw [e1] at e2
        cases e2
        exact O.same I hK q1 q2 ((eqTupL_spec h).1 i _ _ (List.getElem?_eq_getElem l1) (List.getElem?_eq_getElem hi) fun k hk => ih k hk (by omega))
    · cases h
-- x == y, x != y of two tuples
def eqT (E : D → D → Res Bool) (neg : Bool) (x y : D) : Res D := (eqTup E x y).bind fun b => .ok (.bl (if neg = true then !b else b))
theorem eqTupL_nx {E : D → D → Res Bool} (h : ∀ x y z, E x y ≠ .exc z) : ∀ (xs ys : List D) (z : Exn), eqTupL E xs ys ≠ .exc z
  | [], [], _, q => nomatch q
  | [], _ :: _, _, q => nomatch q
  | _ :: _, [], _, q => nomatch q
  | x :: xs, y :: ys, z, q => by
    rw [eqTupL] at q
    cases e : E x y with
    | stuck => rw [e] at q; cases q
    | exc w => exact h x y w e
    | ok b =>
      rw [e, Res.bind_ok] at q
      split at q
      · exact eqTupL_nx h xs ys z q
      · cases q
theorem eqTup_nx {E : D → D → Res Bool} (h : ∀ x y z, E x y ≠ .exc z) (x y : D) (z : Exn) : eqTup E x y ≠ .exc z := by
  unfold eqTup
  split
  · exact eqTupL_nx h _ _ z
  · exact fun q => nomatch q
theorem eqFlat_nx (x y : D) (z : Exn) : eqFlat x y ≠ .exc z := by
  unfold eqFlat
  split <;> exact fun q => nomatch q
theorem eqObj_nx {c : Nat} {g : List D → Res D} (x y : D) (z : Exn) : eqObj c g x y ≠ .exc z := by
  unfold eqObj
  split
  · split
    · split
      · exact fun q => nomatch q
      · split <;> exact fun q => nomatch q
      · exact fun q => nomatch q
    · exact fun q => nomatch q
  · exact fun q => nomatch q
theorem eqT_n {E : D → D → Res Bool} {neg : Bool} (h : ∀ x y z, E x y ≠ .exc z) (x y : D) (z : Exn) : eqT E neg x y ≠ .exc z := by
  unfold eqT
  cases e : eqTup E x y with
  | stuck => exact fun q => nomatch q
  | ok b => exact fun q => nomatch q
  | exc w => exact (eqTup_nx h x y w e).elim
theorem od_eqT {op : CmpOp} {E : D → D → Res Bool} {neg : Bool} (O : EqI Γ n E) (nx : ∀ x y z, E x y ≠ .exc z) (ho : (op = .Eq ∧ neg = false) ∨ (op = .NotEq ∧ neg = true)) (hk : 0 < k := by first | decide | omega) (hj : n + 1 ≤ k := by first | decide | omega) : OpD Γ k X W (compareOp op) (eqT E neg) := fun S => by
  refine ⟨fun v u H Q => ∃ (M : Addr → Prop) (x y : D) (r : Bool), (∀ a, M a → H a ≠ none) ∧ Rp Γ M H x v ∧ Rp Γ M H y u ∧ eqTup E x y = .ok r ∧ ∀ H', Same H H' → Q (.bl (if neg = true then !r else r)) H', fun pins s σ H v u a b Q I rv ru q => ?_, fun M H v u x y Q m r1 r2 h => ?_⟩
  · obtain ⟨M, x, y, r, hM, rx, ry, h, w⟩ := q
    unfold eqTup at h
    split at h
    · rename_i xs ys
      rw [Rp] at rx ry
      obtain ⟨p, us, rfl, t1, q1⟩ := rx
      obtain ⟨q, ws, rfl, t2, q2⟩ := ry
      have t1 := t1.sq
      have t2 := t2.sq
      rw [← S.K] at t1 t2
      cases rv
      cases ru
      have main := rc_tup O neg S (S.room' hk hj) rfl I hM t1 t2 q1 q2 h
      have fin : ∀ (z : Value) (s' : Shared), (z = .bool (if neg = true then !r else r) ∧ ∃ H', Inv X pins σ H' s' ∧ Same H H') → EP X pins σ Q z s' := fun z s' ⟨e, H', I', sm⟩ => by
        subst e
        exact ⟨.bl (if neg = true then !r else r), H', I', rfl, w H' sm⟩
      rcases ho with ⟨rfl, rfl⟩ | ⟨rfl, rfl⟩
      · exact wpAny_mono main fin fun _ _ x => x
      · exact wpAny_mono main fin fun _ _ x => x
    · cases h
  · unfold eqT at h
    cases e : eqTup E x y with
    | stuck => rw [e] at h; exact h.elim
    | exc z => exact (eqTup_nx nx x y z e).elim
    | ok r =>
      rw [e] at h
      exact ⟨M, x, y, r, m, r1, r2, e, fun H' sm => (show WantE Γ M H Q _ from h) _ H' sm (by rw [Rp])⟩
end
set_option Elab.async false
set_option linter.all false
set_option maxRecDepth 100000
set_option maxHeartbeats 4000000
/-! ### except C as x -/
open PySem L2
abbrev Gam.hold (Γ : Gam) (a : Addr) (cv : Value) (d : Option Addr) : Gam := { P := Γ.P, w := Γ.w, K := Γ.K, mg := Γ.mg, base := Γ.base, cls := Γ.cls, fld := Γ.fld, ea := a, ec := cv, ed := d }
section
variable {Γ : Gam} {a : Addr} {cv : Value} {dd : Option Addr} {M : Addr → Prop} {H : Hp}
mutual
theorem rp_hold : ∀ (x : D) (v : V), Rp (Γ.hold a cv dd) M H x v ↔ Rp Γ M H x v
  | .non, v => by rw [Rp, Rp]
  | .bl b, v => by rw [Rp, Rp]
  | .int i, v => by rw [Rp, Rp]
  | .str x, v => by rw [Rp, Rp]
  | .tup ds, v => by
    rw [Rp, Rp]
    exact exists_congr fun p => exists_congr fun vs => and_congr_right fun _ => and_congr Iff.rfl (rpl_hold ds vs)
  | .lst ds, v => by
    rw [Rp, Rp]
    exact exists_congr fun p => exists_congr fun vs => and_congr_right fun _ => and_congr Iff.rfl (rpl_hold ds vs)
  | .obj c fs, v => by
    rw [Rp, Rp]
    exact exists_congr fun p => exists_congr fun dx => exists_congr fun us => and_congr_right fun _ => and_congr Iff.rfl (and_congr_right fun _ => and_congr Iff.rfl (rpl_hold fs _))
theorem rpl_hold : ∀ (xs : List D) (vs : List V), RpL (Γ.hold a cv dd) M H xs vs ↔ RpL Γ M H xs vs
  | [], vs => by rw [RpL, RpL]
  | x :: xs, vs => by
    rw [RpL, RpL]
    exact exists_congr fun v => exists_congr fun r => and_congr_right fun _ => and_congr (rp_hold x v) (rpl_hold xs r)
end
def Cell.isHeld : Cell → Bool
  | .held _ => true
  | _ => false
def noHeld (ρ : Env) : Bool := ρ.all fun c => !c.isHeld
theorem noHeld_at {ρ : Env} (h : noHeld ρ = true) {i : Nat} {c : Cell} (e : ρ[i]? = some c) : c.isHeld = false := by
  have := List.all_eq_true.mp h c (List.mem_of_getElem? e)
  simpa using this
theorem cok_hold {B : Bd} {c : Cell} {s : Option (Option V)} (hc : c.isHeld = false) : COk (Γ.hold a cv dd) B M H c s ↔ COk Γ B M H c s := by
  cases c with
  | no => exact Iff.rfl
  | val d => exact exists_congr fun v => and_congr_right fun _ => rp_hold d v
  | own ds => exact exists_congr fun p => exists_congr fun vs => and_congr_right fun _ => and_congr_right fun _ => rpl_hold ds vs
  | ins c fs => exact exists_congr fun us => and_congr_right fun _ => and_congr_right fun _ => and_congr_right fun _ => rpl_hold fs _
  | held y => cases hc
  | par ds => exact exists_congr fun vs => and_congr_right fun _ => and_congr_right fun _ => rpl_hold ds vs
theorem gd_hold {M0 : Bd} {H0 : Hp} {σ : St} {ρ : Env} (nh : noHeld ρ = true) : Gd (Γ.hold a cv dd) M0 H0 σ H ρ ↔ Gd Γ M0 H0 σ H ρ :=
  ⟨fun G => ⟨G.len, G.ext, G.m0, fun i c e => (cok_hold (noHeld_at nh e)).mp (G.cel i c e), G.new, G.inj⟩, fun G => ⟨G.len, G.ext, G.m0, fun i c e => (cok_hold (noHeld_at nh e)).mpr (G.cel i c e), G.new, G.inj⟩⟩
/-- a cell that owns nothing takes the place of another such -/
theorem own_set_plain {σ : St} {ρ : Env} {i j : Nat} {s : Option V} {c : Cell} {p : Addr} (hc : c.isOwn = false) (h : OwnAt (σ.set i s) (ρ.set i c) j p) : OwnAt σ ρ j p ∧ j ≠ i := by
  obtain ⟨c', h1, h2, h3⟩ := h
  by_cases e : i = j
  · subst e
    rw [List.getElem?_set] at h1
    split at h1
    · split at h1
      · cases h1
        rw [hc] at h2
        cases h2
      · cases h1
    · rename_i z
      exact (z rfl).elim
  · rw [List.getElem?_set_ne e] at h1 h3
    exact ⟨⟨c', h1, h2, h3⟩, fun z => e z.symm⟩
theorem gd_set_plain {M0 : Bd} {H0 : Hp} {σ : St} {ρ : Env} {i : Nat} {s : Option V} {c : Cell} (G : Gd Γ M0 H0 σ H ρ) (hi : i < ρ.length) (hc : c.isOwn = false) (hk : ∀ M, COk Γ M0 M H c (some s)) : Gd Γ M0 H0 (σ.set i s) H (ρ.set i c) := by
  have sub : ∀ a, Mx M0 (σ.set i s) (ρ.set i c) a → Mx M0 σ ρ a := fun a h => by
    rcases h with h | ⟨j, h⟩
    · exact .inl h
    · exact .inr ⟨j, (own_set_plain hc h).1⟩
  refine ⟨by rw [List.length_set, List.length_set, G.len], G.ext, G.m0, fun j c' q => ?_, fun j p h => G.new j p (own_set_plain hc h).1, fun j k p h1 h2 => G.inj j k p (own_set_plain hc h1).1 (own_set_plain hc h2).1⟩
  by_cases z : i = j
  · subst z
    rw [List.getElem?_set_self hi] at q
    cases q
    rw [List.getElem?_set_self (by rw [G.len]; exact hi)]
    exact hk _
  · rw [List.getElem?_set_ne z] at q ⊢
    exact COk.imp (.weak sub) (fun _ _ _ _ h => h) (fun _ _ h => h) (G.cel j c' q)
end
namespace S
/-- try: b, except C as x (the slot i): g; exceptions without fields -/
def tryAs (sub : Nat → Option Bool) (i : Nat) (b g : Env → Out) : Env → Out := fun ρ => match b ρ with
  | .exc x ρ' => (match sub x.c with
    | some true => if noHeld ρ' = true ∧ i < ρ'.length ∧ x.fs.isEmpty = true then (match g (List.set ρ' i (.held x)) with
        | .next ρ2 => if noHeld (List.set ρ2 i .no) = true ∧ i < ρ2.length then .next (List.set ρ2 i .no) else .stuck
        | .ret d => .ret d
        | _ => .stuck) else .stuck
    | some false => .exc x ρ'
    | none => .stuck)
  | o => o
end S
section
variable {Γ : Gam} {k j : Nat} {X : Cx} {W : WX}
theorem Sit.suiteH (S : Sit Γ k X W) (a : Addr) (cv : Value) (d : Option Addr) (pn : List (Addr × Obj)) : Sit (Γ.hold a cv d) 0 (X.suite a pn) W0 :=
  ⟨S.P, S.w, S.K, S.mg, S.base, fun z => absurd z (Nat.lt_irrefl 0), fun z => absurd z (Nat.lt_irrefl 0), takes0, PassesOwn.never, S.nd, fun z => absurd z (Nat.lt_irrefl 0), S.ns⟩
theorem ds_tryAs {x n : Str} {i : Nat} {c : Value} {sub : Nat → Option Bool} {body suite : List Stmt} {b₀ : Stmt} {b g : Env → Out} {np pos pos' : Pos} (hs : X.stack = X.env :: X.outer) (hf : X.env.frame = some X.env.locals) (hi : X.N[i]? = some n) (hln : X.env.kindOf n = some .local) (O : CatchOk Γ c sub) (hc : Sit Γ k X W → Names X x c)
    (hb : ∀ (W' : WX) (pn : List (Addr × Obj)) (xe : Value → Shared → Prop), DSs Γ k (X.tr pn xe) W' body b) (hsu : ∀ (a : Addr) (oe : Obj) (cv : Value) (d : Option Addr) (pn : List (Addr × Obj)), Zc cv d oe → (∃ vs, oe.data = .fields vs) → DSs (Γ.hold a cv d) 0 (X.suite a ((a, oe) :: pn)) W0 (b₀ :: suite) g) (hk : 0 < k := by first | decide | omega) :
    DS Γ k X W (.Try body [.ExceptHandler (some (.Name x np)) (some n) (b₀ :: suite) pos'] [] [] pos) (S.tryAs sub i b g) := fun St => by
  refine ⟨_, ps_try_as (tb := canS Γ b) (ts := fun a cv d => canS (Γ.hold a cv d) g W0) hs hf St.nd hi hln (hc St) St.takes (fun W' pn xe tk pas => (hb W' pn xe).can (St.tr hk tk pas)) (fun a oe cls d pn hz hd => (hsu a oe cls d pn hz hd).can (St.suiteH a cls d _)), fun M0 H0 σ H ρ Dn G h => ?_⟩
  refine ⟨M0, H0, ρ, G, ?_⟩
  unfold S.tryAs at h
  cases q : b ρ with
  | exc y ρ' =>
    rw [q] at h
    intro cv dd σ' H' G' r
    dsimp only at h
    obtain ⟨r1, r2⟩ := id r
    cases z : sub y.c with
    | none => rw [z] at h; exact h.elim
    | some t =>
      rw [z] at h
      refine ⟨t, by rw [r1, St.K]; exact O.ok _ _ z, fun e a ha => ?_, fun e => ?_⟩
      · subst e
        dsimp only at h
        split at h
        · rename_i hh
          obtain ⟨nh, hil, he⟩ := hh
          have hfs : y.fs = [] := List.isEmpty_iff.mp he
          have hfl : HeldF (Γ.hold a cv dd) y dd H' := by
            unfold HeldF
            rw [hfs] at r2 ⊢
            exact r2
          have G2 : Gd (Γ.hold a cv dd) M0 H0 (σ'.set i (some (.ref a))) H' (List.set ρ' i (.held y)) := gd_set_plain ((gd_hold nh).mpr G') hil rfl fun M => ⟨rfl, r1, hfl⟩
          refine ⟨M0, H0, _, G2, ?_⟩
          cases z2 : g (List.set ρ' i (.held y)) with
          | next ρ2 =>
            rw [z2] at h
            dsimp only at h
            split at h
            · rename_i hh2
              exact fun σ2 H2 G3 => h _ _ ((gd_hold hh2.1).mp (gd_set_plain G3 hh2.2 rfl fun M => trivial))
            · exact h.elim
          | ret d =>
            rw [z2] at h
            exact fun v H2 e rr => h v H2 e ((rp_hold d v).mp rr)
          | exc _ _ => rw [z2] at h; exact h.elim
          | stuck => rw [z2] at h; exact h
          | retF d => rw [z2] at h; exact h.elim
          | brk d => rw [z2] at h; exact h.elim
          | cnt d => rw [z2] at h; exact h.elim
          | retP us d => rw [z2] at h; exact h.elim
        · exact h.elim
      · subst e
        exact h cv dd σ' H' G' r
  | stuck => rw [q] at h; exact h
  | next ρ' => rw [q] at h; exact h
  | ret d => rw [q] at h; exact h
  | retF d => rw [q] at h; exact h
  | brk d => rw [q] at h; exact h
  | cnt d => rw [q] at h; exact h
  | retP us d => rw [q] at h; exact h
end
/-! ### isinstance(e, C) of the exception held -/
def excCls (x : Str) (K : PySem.W.Frag) : Bool := He.eqO (PySem.W.findIn K (.ref (He.ga K x)) "__getattribute__") (some (some (.builtin "BaseException.__getattribute__"))) && (He.eqO (PySem.W.findIn K (.ref (He.ga K x)) "__getattr__") (some none) && (decide (PySem.W.subIn K (.ref (He.ga K x)) (.type "BaseException") = some true) && (PySem.W.hasDictIn K (He.ga K x) &&
  (He.eqO (PySem.W.findIn K (.ref (He.ga K x)) "__class__") (some (some (.builtin "object.__class__"))) && (He.eqO (PySem.W.specialIn K (.builtin "object.__class__") "__get__") (some (some (.builtin "getset_descriptor.__get__"))) && (decide (PySem.W.takesIn K (.builtin "object.__class__") = some true) && decide (PySem.W.mroIn K (He.ga K x) (.type "object") = some true)))))))
def isEC (u : PySem.W.Frag → Value) (nm : Nat → Str) (l : List (Nat × Bool)) (K : PySem.W.Frag) : Bool := l.all fun q => excCls (nm q.1) K && decide (PySem.W.kitOne K (.ref (He.ga K (nm q.1))) (u K) = some q.2)
def isEtC (us : PySem.W.Frag → List Value) (nm : Nat → Str) (l : List (Nat × Bool)) (K : PySem.W.Frag) : Bool := l.all fun q => excCls (nm q.1) K && decide (PySem.W.kitAny K (.ref (He.ga K (nm q.1))) (us K) = some q.2)
structure IsEOk (Γ : Gam) (u : Value) (tst : Nat → Option Bool) : Prop where
  ok : ∀ t b, tst t = some b → ExcC Γ.K (Γ.cls t) ∧ PySem.W.kitOne Γ.K (.ref (Γ.cls t)) u = some b
structure IsEtOk (Γ : Gam) (us : List Value) (tst : Nat → Option Bool) : Prop where
  ok : ∀ t b, tst t = some b → ExcC Γ.K (Γ.cls t) ∧ PySem.W.kitAny Γ.K (.ref (Γ.cls t)) us = some b
theorem excCls_ok {K : PySem.W.Frag} {x : Str} (h : excCls x K = true) : ExcC K (He.ga K x) := by
  simp only [excCls, Bool.and_eq_true, decide_eq_true_eq] at h
  obtain ⟨h1, h2, h3, h4, h5, h6, h7, h8⟩ := h
  exact ⟨He.eqO_ok h1, He.eqO_ok h2, h3, h4, He.eqO_ok h5, He.eqO_ok h6, h7, h8⟩
theorem Named.isE {Γ : Gam} {nm : Nat → Str} {h : Heap} (N : Named Γ nm h) {u : PySem.W.Frag → Value} {l : List (Nat × Bool)} (q : isEC u nm l Γ.K = true) : IsEOk Γ (u Γ.K) (fun t => l.lookup t) := ⟨fun t b e => by
  have z := List.all_eq_true.mp q _ (lookup_mem e)
  rw [Bool.and_eq_true, decide_eq_true_eq] at z
  rw [N.cl]
  exact ⟨excCls_ok z.1, z.2⟩⟩
theorem Named.isEt {Γ : Gam} {nm : Nat → Str} {h : Heap} (N : Named Γ nm h) {us : PySem.W.Frag → List Value} {l : List (Nat × Bool)} (q : isEtC us nm l Γ.K = true) : IsEtOk Γ (us Γ.K) (fun t => l.lookup t) := ⟨fun t b e => by
  have z := List.all_eq_true.mp q _ (lookup_mem e)
  rw [Bool.and_eq_true, decide_eq_true_eq] at z
  rw [N.cl]
  exact ⟨excCls_ok z.1, z.2⟩⟩
def E.isE (i : Nat) (tst : Nat → Option Bool) : Env → Res D := fun ρ => match ρ[i]? with
  | some (.held y) => if y.fs.isEmpty = true then (match tst y.c with
    | some b => .ok (.bl b)
    | none => .stuck) else .stuck
  | _ => .stuck
def rIsEt (K : PySem.W.Frag) (D a : Addr) : List V → Hp → VK → Prop := fun xs H Q => ∃ (tp : Addr) (cs : List V) (us : List Value) (b : Bool), xs = [.ref a, .ref tp] ∧ SqT K H tp cs ∧ (∀ vs, Vals cs vs → vs = us) ∧ PySem.W.kitAny K (.ref D) us = some b ∧ Q (.bl b) H
theorem call_isEt {X : Cx} {a D : Addr} {oe : Obj} {pn : List (Addr × Obj)} (C : ExcC X.K D) (hz : Zc (.ref D) none oe) (hf : ∃ vs, oe.data = .fields vs) : CallR (X.suite a ((a, oe) :: pn)) (.builtin "isinstance") (rIsEt X.K D a) := by
  intro pins s σ H xs us Q I r h
  obtain ⟨tp, cs, ws, b, rfl, hq, hcv, e, q⟩ := h
  cases r with
  | cons rx rr =>
    cases rr with
    | cons rt rr =>
      cases rr
      cases rx
      cases rt
      obtain ⟨its, rv, p, _⟩ := I.tuple (show SqT (X.suite a ((a, oe) :: pn)).K H tp cs from hq)
      have ew := hcv _ rv
      subst ew
      obtain ⟨⟨oc2, od2, oda2, osl2⟩, ho2, hc2, n2, hd2⟩ := p
      dsimp only at hc2 hd2
      subst hc2 hd2
      obtain ⟨hget, _⟩ := I.pin (a, oe) (List.mem_append.mpr (.inl List.mem_cons_self))
      obtain ⟨vs, hv⟩ := hf
      have J : PySem.W.InstAt s.heap a oe D none := by
        obtain ⟨oc, od, oda, osl⟩ := oe
        obtain ⟨h1, h2⟩ := hz
        dsimp only at h1 h2 hv
        subst h1 h2 hv
        exact ⟨hget, rfl, rfl, trivial⟩
      exact PySem.W.kia_tup (PySem.W.handS_kitx_exc C.hg C.hk C.hs C.hd C.ha C.hn C.ht C.hm) I.kIn J ho2 e (fun z => nomatch z) fun tk => ⟨.bl b, H, I.kept (t' := tk) fun _ _ z => z, rfl, q⟩
section
variable {Γ : Gam} {X : Cx} {W : WX} {a : Addr} {oe : Obj} {cv : Value} {dd : Option Addr} {pn : List (Addr × Obj)}
theorem isE_held {i : Nat} {tst : Nat → Option Bool} {M0 : Bd} {H0 : Hp} {σ : St} {H : Hp} {ρ : Env} {Q : D → Prop} (G : Gd (Γ.hold a cv dd) M0 H0 σ H ρ) (h : Post (Γ.hold a cv dd) W σ H (E.isE i tst ρ) Q) :
    ∃ t b, tst t = some b ∧ cv = .ref (Γ.cls t) ∧ dd = none ∧ σ[i]? = some (some (.ref a)) ∧ Q (.bl b) := by
  unfold E.isE at h
  cases e : ρ[i]? with
  | none => rw [e] at h; exact h.elim
  | some c =>
    rw [e] at h
    cases c with
    | held y =>
      dsimp only at h
      split at h
      · rename_i hfs
        have hfs : y.fs = [] := List.isEmpty_iff.mp hfs
        cases q : tst y.c with
        | none => rw [q] at h; exact h.elim
        | some b =>
          rw [q] at h
          obtain ⟨h1, h2, h3⟩ := G.cel i _ e
          unfold HeldF at h3
          rw [hfs] at h3
          exact ⟨y.c, b, q, h2, h3, h1, h⟩
      · exact h.elim
    | no => exact h.elim
    | val d => exact h.elim
    | own d => exact h.elim
    | ins c d => exact h.elim
    | par d => exact h.elim
theorem isE_run {i : Nat} {x : Str} {tst : Nat → Option Bool} {ce : Expr} {c : V} {u : Value} {p p1 pos : Pos} (hz : Zc cv dd oe) (hf : ∃ vs, oe.data = .fields vs) (O : IsEOk Γ u tst) (hu : ∀ w, RelV c w → w = u) (pc : PE (X.suite a ((a, oe) :: pn)) ce (fun σ H Q => Q c H)) (hm : X.mg "isinstance" = none) (hK : X.K = Γ.K)
    (hg : Gl (X.suite a ((a, oe) :: pn)) "isinstance") (hN : (X.suite a ((a, oe) :: pn)).N[i]? = some x) (hv : Vis (X.suite a ((a, oe) :: pn)).env.scope x) (hd : (x == ("__debug__" : Str)) = false) (hcd : (x == ("__classdict__" : Str)) = false)
    (hst : starEach [.Name x p1, ce] (X.suite a ((a, oe) :: pn)).env = (false, eval (.Name x p1) (X.suite a ((a, oe) :: pn)).env) :: starEach [ce] (X.suite a ((a, oe) :: pn)).env) (hst2 : starEach [ce] (X.suite a ((a, oe) :: pn)).env = (false, eval ce (X.suite a ((a, oe) :: pn)).env) :: starEach [] (X.suite a ((a, oe) :: pn)).env)
    (hpl : (backTo pos (starEach [ce] (X.suite a ((a, oe) :: pn)).env)).any (·.1) = false) : DE (Γ.hold a cv dd) 0 (X.suite a ((a, oe) :: pn)) W0 (.Call (.Name "isinstance" p) [.Name x p1, ce] [] pos) (E.isE i tst) := fun S => by
  by_cases hD : ∃ D, cv = .ref D ∧ dd = none ∧ ExcC Γ.K D
  · obtain ⟨D, rfl, rfl, ec⟩ := hD
    refine ⟨_, pe_callB (call_isE (X := X) (by rw [hK]; exact ec) hz hf) hg hm (by decide +kernel) (pa_cons (pe_var hN hv hd hcd) (pa_cons pc pa_nil hst2) hst) (he := hst) (hpl := hpl), fun M0 H0 σ H ρ Q G h => ?_⟩
    obtain ⟨t, b, e1, e2, _, e4, q⟩ := isE_held G h
    have e2 : D = Γ.cls t := Value.ref.inj e2
    subst e2
    exact ⟨.ref a, e4, c, u, b, rfl, hu, by rw [hK]; exact (O.ok t b e1).2, (show WantE _ _ H Q (.bl b) from q) _ H (Same.refl H) (by rw [Rp])⟩
  · refine ⟨fun _ _ _ => False, ⟨fun _ _ _ _ _ _ h => h.elim⟩, fun M0 H0 σ H ρ Q G h => ?_⟩
    obtain ⟨t, b, e1, e2, e3, _, _⟩ := isE_held G h
    exact hD ⟨_, e2, e3, (O.ok t b e1).1⟩
theorem isEt_run {i : Nat} {x : Str} {tst : Nat → Option Bool} {es : List Expr} {cs : List V} {us : List Value} {kk : Nat} {tpos p p1 pos : Pos} (hz : Zc cv dd oe) (hf : ∃ vs, oe.data = .fields vs) (O : IsEtOk Γ us tst) (hu : ∀ ws, Vals cs ws → ws = us) (hl : cs.length ≤ sizeLine) (pc : PA (X.suite a ((a, oe) :: pn)) es (fun σ H Q => Q cs H)) (hm : X.mg "isinstance" = none) (hK : X.K = Γ.K)
    (hg : Gl (X.suite a ((a, oe) :: pn)) "isinstance") (hN : (X.suite a ((a, oe) :: pn)).N[i]? = some x) (hv : Vis (X.suite a ((a, oe) :: pn)).env.scope x) (hd : (x == ("__debug__" : Str)) = false) (hcd : (x == ("__classdict__" : Str)) = false)
    (hst : starEach [.Name x p1, .Tuple es kk tpos] (X.suite a ((a, oe) :: pn)).env = (false, eval (.Name x p1) (X.suite a ((a, oe) :: pn)).env) :: starEach [.Tuple es kk tpos] (X.suite a ((a, oe) :: pn)).env) (hst2 : starEach [.Tuple es kk tpos] (X.suite a ((a, oe) :: pn)).env = (false, eval (.Tuple es kk tpos) (X.suite a ((a, oe) :: pn)).env) :: starEach [] (X.suite a ((a, oe) :: pn)).env)
    (hpl : (backTo pos (starEach [.Tuple es kk tpos] (X.suite a ((a, oe) :: pn)).env)).any (·.1) = false) : DE (Γ.hold a cv dd) 0 (X.suite a ((a, oe) :: pn)) W0 (.Call (.Name "isinstance" p) [.Name x p1, .Tuple es kk tpos] [] pos) (E.isE i tst) := fun S => by
  by_cases hD : ∃ D, cv = .ref D ∧ dd = none ∧ ExcC Γ.K D
  · obtain ⟨D, rfl, rfl, ec⟩ := hD
    refine ⟨_, pe_callB (call_isEt (X := X) (by rw [hK]; exact ec) hz hf) hg hm (by decide +kernel) (pa_cons (pe_var hN hv hd hcd) (pa_cons (pe_tup pc) pa_nil hst2) hst) (he := hst) (hpl := hpl), fun M0 H0 σ H ρ Q G h => ?_⟩
    obtain ⟨t, b, e1, e2, _, e4, q⟩ := isE_held G h
    have e2 : D = Γ.cls t := Value.ref.inj e2
    subst e2
    refine ⟨.ref a, e4, hl, fun tp htp => ?_⟩
    have sm : Same H (upd H tp (.tup cs)) := fun b' o h' => by rw [upd_ne (ne_of_none h' htp)]; exact h'
    exact ⟨tp, cs, us, b, rfl, .inl (.inl upd_same), hu, by rw [hK]; exact (O.ok t b e1).2, (show WantE _ _ H Q (.bl b) from q) _ _ sm (by rw [Rp])⟩
  · refine ⟨fun _ _ _ => False, ⟨fun _ _ _ _ _ _ h => h.elim⟩, fun M0 H0 σ H ρ Q G h => ?_⟩
    obtain ⟨t, b, e1, e2, e3, _, _⟩ := isE_held G h
    exact hD ⟨_, e2, e3, (O.ok t b e1).1⟩
theorem de_isEC {i t : Nat} {x C : Str} {tst : Nat → Option Bool} {p p1 p2 pos : Pos} (hz : Zc cv dd oe) (hf : ∃ vs, oe.data = .fields vs) (O : IsEOk Γ (.ref (Γ.cls t)) tst) (hm : Γ.mg "isinstance" = none) (hC : Γ.mg C = some (.ref (Γ.cls t)))
    (hg : Gl (X.suite a ((a, oe) :: pn)) "isinstance" := by rfl) (hgT : Gl (X.suite a ((a, oe) :: pn)) C := by rfl) (hdb : (C == ("__debug__" : Str)) = false := by decide) (hN : (X.suite a ((a, oe) :: pn)).N[i]? = some x := by rfl) (hv : Vis (X.suite a ((a, oe) :: pn)).env.scope x := by first | exact Or.inl rfl | exact Or.inr (Or.inl rfl) | exact Or.inr (Or.inr rfl)) (hd : (x == ("__debug__" : Str)) = false := by decide) (hcd : (x == ("__classdict__" : Str)) = false := by decide)
    (hst : starEach [.Name x p1, .Name C p2] (X.suite a ((a, oe) :: pn)).env = (false, eval (.Name x p1) (X.suite a ((a, oe) :: pn)).env) :: starEach [.Name C p2] (X.suite a ((a, oe) :: pn)).env := by rfl) (hst2 : starEach [.Name C p2] (X.suite a ((a, oe) :: pn)).env = (false, eval (.Name C p2) (X.suite a ((a, oe) :: pn)).env) :: starEach [] (X.suite a ((a, oe) :: pn)).env := by rfl)
    (hpl : (backTo pos (starEach [.Name C p2] (X.suite a ((a, oe) :: pn)).env)).any (·.1) = false := by rfl) : DE (Γ.hold a cv dd) 0 (X.suite a ((a, oe) :: pn)) W0 (.Call (.Name "isinstance" p) [.Name x p1, .Name C p2] [] pos) (E.isE i tst) := fun S =>
  isE_run hz hf O (c := V.ref (Γ.cls t)) (fun w (h : RelV (V.ref (Γ.cls t)) w) => h) (pe_glob (v := .ref (Γ.cls t)) hgT ((congrFun S.mg C).trans hC) rfl hdb) ((congrFun S.mg "isinstance").trans hm) S.K hg hN hv hd hcd hst hst2 hpl S
theorem de_isEB {i : Nat} {x C : Str} {ty : String} {tst : Nat → Option Bool} {p p1 p2 pos : Pos} (hz : Zc cv dd oe) (hf : ∃ vs, oe.data = .fields vs) (O : IsEOk Γ (.type ty) tst) (hm : Γ.mg "isinstance" = none) (hC : Γ.mg C = none) (hb : bootBuiltins C = some (.type ty))
    (hg : Gl (X.suite a ((a, oe) :: pn)) "isinstance" := by rfl) (hgT : Gl (X.suite a ((a, oe) :: pn)) C := by rfl) (hn : C ≠ "__name__" := by decide) (hdb : (C == ("__debug__" : Str)) = false := by decide) (hN : (X.suite a ((a, oe) :: pn)).N[i]? = some x := by rfl) (hv : Vis (X.suite a ((a, oe) :: pn)).env.scope x := by first | exact Or.inl rfl | exact Or.inr (Or.inl rfl) | exact Or.inr (Or.inr rfl)) (hd : (x == ("__debug__" : Str)) = false := by decide) (hcd : (x == ("__classdict__" : Str)) = false := by decide)
    (hst : starEach [.Name x p1, .Name C p2] (X.suite a ((a, oe) :: pn)).env = (false, eval (.Name x p1) (X.suite a ((a, oe) :: pn)).env) :: starEach [.Name C p2] (X.suite a ((a, oe) :: pn)).env := by rfl) (hst2 : starEach [.Name C p2] (X.suite a ((a, oe) :: pn)).env = (false, eval (.Name C p2) (X.suite a ((a, oe) :: pn)).env) :: starEach [] (X.suite a ((a, oe) :: pn)).env := by rfl)
    (hpl : (backTo pos (starEach [.Name C p2] (X.suite a ((a, oe) :: pn)).env)).any (·.1) = false := by rfl) : DE (Γ.hold a cv dd) 0 (X.suite a ((a, oe) :: pn)) W0 (.Call (.Name "isinstance" p) [.Name x p1, .Name C p2] [] pos) (E.isE i tst) := fun S =>
  isE_run hz hf O (c := V.ty ty) (fun w (h : RelV (V.ty ty) w) => h) (pe_bltn (v := .ty ty) hgT ((congrFun S.mg C).trans hC) hb rfl hn hdb) ((congrFun S.mg "isinstance").trans hm) S.K hg hN hv hd hcd hst hst2 hpl S
theorem pac_nil {Y : Cx} : PA Y [] (fun σ H Q => Q [] H) := pa_nil
theorem pac_cons {Y : Cx} {C : Str} {c : Addr} {p : Pos} {es : List Expr} {cs : List V} (hC : Y.mg C = some (.ref c)) (h : PA Y es (fun σ H Q => Q cs H)) (hgT : Gl Y C := by rfl) (hdb : (C == ("__debug__" : Str)) = false := by decide) (hs : starEach (.Name C p :: es) Y.env = (false, eval (.Name C p) Y.env) :: starEach es Y.env := by rfl) : PA Y (.Name C p :: es) (fun σ H Q => Q (.ref c :: cs) H) :=
  pa_cons (pe_glob (v := .ref c) hgT hC rfl hdb) h hs
theorem vals_refs : ∀ (l : List Addr) (ws : List Value), Vals (l.map V.ref) ws → ws = l.map Value.ref
  | [], _, .nil => rfl
  | c :: l, _, .cons r t => by
    cases r
    rw [List.map_cons, ← vals_refs l _ t]
theorem de_isEt {i : Nat} {x : Str} {l : List Addr} {tst : Nat → Option Bool} {es : List Expr} {kk : Nat} {tpos p p1 pos : Pos} (hz : Zc cv dd oe) (hf : ∃ vs, oe.data = .fields vs) (O : IsEtOk Γ (l.map Value.ref) tst) (hm : Γ.mg "isinstance" = none) (pc : (∀ (C : Str) (v : Value), Γ.mg C = some v → (X.suite a ((a, oe) :: pn)).mg C = some v) → PA (X.suite a ((a, oe) :: pn)) es (fun σ H Q => Q (l.map V.ref) H))
    (hl : l.length ≤ 100 := by simp) (hg : Gl (X.suite a ((a, oe) :: pn)) "isinstance" := by rfl) (hN : (X.suite a ((a, oe) :: pn)).N[i]? = some x := by rfl) (hv : Vis (X.suite a ((a, oe) :: pn)).env.scope x := by first | exact Or.inl rfl | exact Or.inr (Or.inl rfl) | exact Or.inr (Or.inr rfl)) (hd : (x == ("__debug__" : Str)) = false := by decide) (hcd : (x == ("__classdict__" : Str)) = false := by decide)
    (hst : starEach [.Name x p1, .Tuple es kk tpos] (X.suite a ((a, oe) :: pn)).env = (false, eval (.Name x p1) (X.suite a ((a, oe) :: pn)).env) :: starEach [.Tuple es kk tpos] (X.suite a ((a, oe) :: pn)).env := by rfl) (hst2 : starEach [.Tuple es kk tpos] (X.suite a ((a, oe) :: pn)).env = (false, eval (.Tuple es kk tpos) (X.suite a ((a, oe) :: pn)).env) :: starEach [] (X.suite a ((a, oe) :: pn)).env := by rfl)
    (hpl : (backTo pos (starEach [.Tuple es kk tpos] (X.suite a ((a, oe) :: pn)).env)).any (·.1) = false := by rfl) : DE (Γ.hold a cv dd) 0 (X.suite a ((a, oe) :: pn)) W0 (.Call (.Name "isinstance" p) [.Name x p1, .Tuple es kk tpos] [] pos) (E.isE i tst) := fun S =>
  isEt_run hz hf O (vals_refs l) (by rw [List.length_map]; exact Nat.le_trans hl (by decide)) (pc fun C v h => (congrFun S.mg C).trans h) ((congrFun S.mg "isinstance").trans hm) S.K hg hN hv hd hcd hst hst2 hpl S
end
set_option Elab.async false
set_option linter.all false
set_option maxRecDepth 100000
set_option maxHeartbeats 4000000
/-! ### max of two ints, range downwards, joins of lists that are values -/
open PySem L2
def rngN (lo : Int) (n : Nat) : List D := (List.range n).map fun (i : Nat) => D.int (lo - (i : Int))
def E.rngDown (f g h : Env → Res D) : Env → Res (List D) := fun ρ => (f ρ).bind fun x => (g ρ).bind fun y => (h ρ).bind fun z => match x, y, z with
  | .int i, .int j, .int c => if c = -1 ∧ -(2 ^ 62) ≤ i ∧ i < 2 ^ 62 ∧ -(2 ^ 62) ≤ j ∧ j < 2 ^ 62 then .ok (rngN i (i - j).toNat) else .stuck
  | _, _, _ => .stuck
section
variable {Γ : Gam} {k j : Nat} {X : Cx} {W : WX}
theorem rngN_walk {M : Addr → Prop} {H H1 : Hp} {R : It → Hp → Prop} {lo : Int} {n : Nat} (w : WantI Γ M H R (rngN lo n)) (e : Same H H1) : R (Itc lo (-1) n) H1 := by
  have hl : (rngN lo n).length = n := by unfold rngN; rw [List.length_map, List.length_range]
  refine w _ H1 (fun _ => True) _ e (by rw [hl]; exact walk_rangeC) fun M' H' im al => ⟨trivial, fun i x H2 hi y => ?_⟩
  obtain ⟨e2, e3⟩ := y
  subst e2
  rw [hl] at hi
  refine ⟨Same.refl _, .int (lo - (i : Int)), ?_, ?_⟩
  · unfold rngN
    rw [List.getElem?_map, List.getElem?_range hi]
    rfl
  · rw [Rp, e3]
    show V.int (lo + ((i : Nat) : Int) * -1) = V.int (lo - (i : Int))
    rw [show lo + ((i : Nat) : Int) * -1 = lo - (i : Int) by omega]
theorem di_rngDown {tg a b c : Expr} {f g h : Env → Res D} {p pos : Pos} (ha : DE Γ k X W a f) (hb : DE Γ k X W b g) (hc : DE Γ k X W c h) (hm : Γ.mg "range" = none) (hg : Gl X "range" := by rfl)
    (hs : starEach [a, b, c] X.env = (false, eval a X.env) :: starEach [b, c] X.env := by rfl) (hs2 : starEach [b, c] X.env = (false, eval b X.env) :: starEach [c] X.env := by rfl) (hs3 : starEach [c] X.env = (false, eval c X.env) :: starEach [] X.env := by rfl) (hpl : (backTo pos (starEach [b, c] X.env)).any (·.1) = false := by rfl) :
    DI Γ k X W tg (.Call (.Name "range" p) [a, b, c] [] pos) (E.rngDown f g h) := fun S => by
  obtain ⟨ta, pa, ra⟩ := ha S
  obtain ⟨tb, pb, rb⟩ := hb S
  obtain ⟨tc, pc, rc⟩ := hc S
  refine ⟨_, pi_range3 hg (by rw [S.mg]; exact hm) (pa_cons pa (pa_cons pb (pa_cons pc pa_nil hs3) hs2) hs) hs hpl, fun M0 H0 σ H ρ R G q => ?_⟩
  refine ra M0 H0 σ H ρ _ G ((Post.bind q).imp (Same.refl H) fun x w v H1 e1 r => ?_)
  refine rb M0 H0 σ H1 ρ _ (G.mono e1) ((Post.bind w).imp e1 fun y w2 u H2 e2 r2 => ?_)
  refine rc M0 H0 σ H2 ρ _ ((G.mono e1).mono e2) ((Post.bind w2).imp (e1.trans e2) fun z w3 u3 H3 e3 r3 => ?_)
  cases x <;> cases y <;> cases z <;> first | exact (show False from w3).elim | skip
  rename_i i j c'
  dsimp only at w3
  split at w3
  · rename_i hh
    obtain ⟨rfl, b1, b2, b3, b4⟩ := hh
    rw [Rp] at r r2 r3
    subst r r2 r3
    exact ⟨i, j, -1, (i - j).toNat, rfl, RgC.neg b1 b2 b3 b4, rngN_walk (show WantI Γ _ H R _ from w3) ((e1.trans e2).trans e3)⟩
  · exact (show False from w3).elim
/-! max(a, b) -/
def maxI : D → D → Res D
  | .int i, .int j => .ok (.int (if j > i then j else i))
  | _, _ => .stuck
theorem de_max2 {a b : Expr} {f g : Env → Res D} {p pos : Pos} (ha : DE Γ k X W a f) (hb : DE Γ k X W b g) (hm : Γ.mg "max" = none) (hk : 0 < k := by first | decide | omega) (hg : Gl X "max" := by rfl)
    (hst : starEach [a, b] X.env = (false, eval a X.env) :: starEach [b] X.env := by rfl) (hst2 : starEach [b] X.env = (false, eval b X.env) :: starEach [] X.env := by rfl) (hpl : (backTo pos (starEach [b] X.env)).any (·.1) = false := by rfl) :
    DE Γ k X W (.Call (.Name "max" p) [a, b] [] pos) (E.op2 maxI f g) := fun S => by
  obtain ⟨ta, pa, ra⟩ := ha S
  obtain ⟨tb, pb, rb⟩ := hb S
  refine ⟨_, pe_callB (call_max2 (S.calm hk)) hg (by rw [S.mg]; exact hm) (by decide +kernel) (pa_cons pa (pa_cons pb pa_nil hst2) hst) (he := hst) (hpl := hpl), fun M0 H0 σ H ρ Q G h => ?_⟩
  refine ra M0 H0 σ H ρ _ G ((Post.bind h).imp (Same.refl H) fun d w v H1 e1 r => ?_)
  refine rb M0 H0 σ H1 ρ _ (G.mono e1) ((Post.bind w).imp e1 fun d2 w2 u H2 e2 r2 => ?_)
  cases d <;> cases d2 <;> first | exact (show False from w2).elim | skip
  rw [Rp] at r
  rw [Rp] at r2
  subst r
  subst r2
  exact ⟨_, _, rfl, (show WantE Γ _ H Q _ from w2) _ H2 (e1.trans e2) (by rw [Rp])⟩
/-! xs + ys of lists that are values -/
def rCatL (K : PySem.W.Frag) : R2 := fun x y H Q => ∃ l b xs zs, x = .ref l ∧ y = .ref b ∧ SqL K H l xs ∧ SqL K H b zs ∧ xs.length + zs.length ≤ sizeLine ∧ ∀ p, H p = none → Q (.ref p) (upd H p (.lst (xs ++ zs)))
theorem op_catL : OpR X (binaryOp .Add) (rCatL X.K) := by
  intro pins s σ H x y v u Q I rx ry h
  obtain ⟨l, b, xs, zs, rfl, rfl, hH, hB, hz, q⟩ := h
  cases rx
  cases ry
  obtain ⟨its, r, p1, hl⟩ := I.list hH
  obtain ⟨its2, r2, p2, hl2⟩ := I.list hB
  obtain ⟨⟨cls, dd, data, sl⟩, ho, hc, n, hd⟩ := p1.isList
  obtain ⟨⟨cls2, dd2, data2, sl2⟩, ho2, hc2, n2, hd2⟩ := p2.isList
  simp only at hc hd hc2 hd2
  subst hc hd hc2 hd2
  have ea : its.toArray ++ its2.toArray = (its ++ its2).toArray := by simp
  refine PySem.concat_meets ⟨_, ho, rfl⟩ ⟨_, ho2, rfl⟩ PySem.noFill_list_add PySem.seq_list_add PySem.F.slot_list_add PySem.F.entry_list_add (PySem.F.args_list_add_2 _ _) (PyProof.Rows.list_addW l b its.toArray its2.toArray n n2 dd dd2 sl sl2 (by rw [List.size_toArray, List.size_toArray, ← r.length, ← r2.length]; exact hz)) ⟨ho, ho2, ?_⟩
  rw [ea]
  exact ⟨.ref _, _, I.lnew (t' := s.toks) (r.append r2) (by rw [List.length_append]; omega), rfl, q _ I.fresh⟩
theorem df_catY {a b : Expr} {f g : Env → Res (List D)} {pos : Pos} (ha : DQ Γ k X W true a f) (hb : DQ Γ k X W true b g) : DF Γ k X W (.BinOp a .Add b pos) (E.cat f g) := fun S => by
  obtain ⟨ta, pa, ra⟩ := ha S
  obtain ⟨tb, pb, rb⟩ := hb S
  refine ⟨_, pe_op op_catL pa pb, fun M0 H0 σ H ρ Q G h => ?_⟩
  refine ra M0 H0 σ H ρ _ G ((Post.bind h).imp (Same.refl H) fun xs w p vs H1 e1 h1 r => ?_)
  have G1 := G.mono e1
  refine rb M0 H0 σ H1 ρ _ G1 ((Post.bind w).imp e1 fun ys w2 p2 us H2 e2 h2 r2 => ?_)
  have h1 := h1.mono e2
  unfold Sq at h1 h2
  rw [if_pos rfl] at h1 h2
  split at w2
  · rename_i hl
    exact ⟨p, p2, vs, us, rfl, rfl, by rw [S.K]; exact h1, by rw [S.K]; exact h2, by rw [r.length, r2.length]; exact hl, fun b hb => new_lst w2 (e1.trans e2) ((r.mono e2).append r2) hb⟩
  · exact (show False from w2).elim
end
/-! turns of a while over an own object whose first field is a list or tuple -/
def fuelO (i : Nat) : Env → Nat := fun ρ => match ρ[i]? with
  | some (.val (.obj _ (.tup xs :: _))) => xs.length + 2
  | _ => 0
set_option Elab.async false
set_option linter.all false
set_option maxRecDepth 100000
set_option maxHeartbeats 4000000
/-! ### lcm of two ints -/
open PySem L2
def LcmOk (i j : Int) : Prop := Builtin.Int.intBits i ≤ 13000 ∧ Builtin.Int.intBits j ≤ 13000
instance (i j : Int) : Decidable (LcmOk i j) := inferInstanceAs (Decidable (_ ∧ _))
theorem log_of_bits {x : Int} {n : Nat} (h : Builtin.Int.intBits x ≤ n) : x.natAbs.log2 ≤ n := by
  unfold Builtin.Int.intBits at h
  split at h
  · rename_i q
    rw [beq_iff_eq.mp q]
    simp
  · omega
theorem lcm_small (x y : Nat) (hx : x.log2 ≤ 13000) (hy : y.log2 ≤ 13000) : (x.lcm y).log2 < bitsLine := by
  have e : bitsLine = 134217728 := by decide
  by_cases h0 : x.lcm y = 0
  · rw [h0, e]; decide
  · have hx0 : x ≠ 0 := fun z => h0 (by rw [z]; simp [Nat.lcm])
    have hy0 : y ≠ 0 := fun z => h0 (by rw [z]; simp [Nat.lcm])
    have a : x < 2 ^ 13001 := (Nat.log2_lt hx0).mp (by omega)
    have b : y < 2 ^ 13001 := (Nat.log2_lt hy0).mp (by omega)
    have c : x.lcm y ≤ x * y := by
      unfold Nat.lcm
      exact Nat.div_le_self _ _
    have d : x * y < 2 ^ (13001 + 13001) := by
      rw [Nat.pow_add]
      exact Nat.mul_lt_mul'' a b
    have := (Nat.log2_lt h0).mpr (Nat.lt_of_le_of_lt c d)
    rw [e]
    omega
def rLcm : List V → Hp → VK → Prop := fun vs H Q => ∃ a b : Int, vs = [.int a, .int b] ∧ LcmOk a b ∧ Q (.int ((Nat.lcm a.natAbs b.natAbs : Nat) : Int)) H
theorem cr_lcm {X : Cx} : CallR X (.builtin "math.lcm") rLcm := by
  intro pins s σ H vs us Q I r h
  obtain ⟨a, b, rfl, ⟨h1, h2⟩, q⟩ := h
  obtain ⟨t, u, rfl⟩ := Vals.int2 r
  have l1 := log_of_bits h1
  have l2 := log_of_bits h2
  have m1 : ¬(max 1 a.natAbs).log2 / 30 + 1 > 450 := by
    rcases Nat.le_total 1 a.natAbs with z | z
    · rw [Nat.max_eq_right z]; omega
    · rw [Nat.max_eq_left z]; decide
  have m2 : ¬(max a.natAbs b.natAbs).log2 / 30 + 1 > 450 := by
    rcases Nat.le_total a.natAbs b.natAbs with z | z
    · rw [Nat.max_eq_right z]; omega
    · rw [Nat.max_eq_left z]; omega
  have e1 : Nat.lcm 1 a.natAbs = a.natAbs := by simp [Nat.lcm]
  have g := PySem.W.mg_run_lcm a t b u m1 m2 (by rw [e1]; exact lcm_small _ _ l1 l2)
  rw [e1] at g
  exact call_function_meets PySem.W.MGF.kind_lcm PySem.W.MGF.plain_lcm PySem.W.MGF.entry_lcm (PySem.W.MGF.args_lcm _ _) g.meets ⟨.int _, H, I.tok _, ⟨_, rfl⟩, q⟩
section
variable {Γ : Gam} {k : Nat} {X : Cx} {W : WX}
def lcmI : D → D → Res D := intD fun i j => if LcmOk i j then .ok (.int ((Nat.lcm i.natAbs j.natAbs : Nat) : Int)) else .stuck
theorem de_lcm {a b : Expr} {f g : Env → Res D} {p pos : Pos} (ha : DE Γ k X W a f) (hb : DE Γ k X W b g) (hm : Γ.mg "lcm" = some (.builtin "math.lcm")) (hg : Gl X "lcm" := by rfl)
    (hst : starEach [a, b] X.env = (false, eval a X.env) :: starEach [b] X.env := by rfl) (hst2 : starEach [b] X.env = (false, eval b X.env) :: starEach [] X.env := by rfl) (hpl : (backTo pos (starEach [b] X.env)).any (·.1) = false := by rfl) :
    DE Γ k X W (.Call (.Name "lcm" p) [a, b] [] pos) (E.op2 lcmI f g) := fun S => by
  obtain ⟨ta, pa, ra⟩ := ha S
  obtain ⟨tb, pb, rb⟩ := hb S
  refine ⟨_, pe_callBfun cr_lcm hg (by rw [S.mg]; exact hm) (pa_cons pa (pa_cons pb pa_nil hst2) hst) (he := hst) (hpl := hpl), fun M0 H0 σ H ρ Q G h => ?_⟩
  refine ra M0 H0 σ H ρ _ G ((Post.bind h).imp (Same.refl H) fun d w v H1 e1 r => ?_)
  refine rb M0 H0 σ H1 ρ _ (G.mono e1) ((Post.bind w).imp e1 fun d2 w2 u H2 e2 r2 => ?_)
  cases d <;> cases d2 <;> first | exact (show False from w2).elim | skip
  rw [Rp] at r
  rw [Rp] at r2
  subst r
  subst r2
  rename_i i j
  by_cases hk : LcmOk i j
  · refine ⟨_, _, rfl, hk, ?_⟩
    have w3 : Post Γ W σ H (if LcmOk i j then .ok (.int ((Nat.lcm i.natAbs j.natAbs : Nat) : Int)) else .stuck) (WantE Γ _ H Q) := w2
    rw [if_pos hk] at w3
    exact (show WantE Γ _ H Q _ from w3) _ H2 (e1.trans e2) (by rw [Rp])
  · have w3 : Post Γ W σ H (if LcmOk i j then .ok (.int ((Nat.lcm i.natAbs j.natAbs : Nat) : Int)) else .stuck) (WantE Γ _ H Q) := w2
    rw [if_neg hk] at w3
    exact (show False from w3).elim
end
/-! turns of a while over an own list -/
def fuelW (i : Nat) : Env → Nat := fun ρ => match ρ[i]? with
  | some (.own xs) => xs.length + 1
  | _ => 0
set_option Elab.async false
set_option linter.all false
set_option maxRecDepth 100000
set_option maxHeartbeats 4000000
/-! ### names from a list's items -/
open PySem L2
section
variable {prog : Program} {w : World} {A : Around} {E : Value → Shared → Prop} {s : Shared}
theorem draw_list {it t : Addr} {items : Array Value} (hne : t ≠ it) : ∀ (n i : Nat) (s : Shared) (Q : List Value → Shared → Prop), s.heap.IsListIter it t i → s.heap.IsList t items → i + n ≤ items.size →
    (∀ h', h'.IsListIter it t (i + n) → Heap.SameBut it s.heap h' → Q ((items.toList.drop i).take n) { s with heap := h' }) → wpAny (model prog w) A (draw (.ref it) n) Q E s
  | 0, i, s, Q, hit, _, _, hQ => by
    show wpAny _ _ (pure []) Q E s
    exact wpAny_pure (by simpa using hQ s.heap hit (Heap.SameBut.refl ..))
  | n + 1, i, s, Q, hit, ht, hle, hQ => by
    have hlt : i < items.size := by omega
    show wpAny _ _ (pyNext (.ref it) >>= _) Q E s
    refine wpAny_bind (wpAny_pyNext_list_item hit ht (x := items[i]) (by simp [hlt]) fun h₁ hit₁ hs₁ => ?_)
    refine wpAny_bind (wpAny_holding (draw_list hne n (i + 1) _ _ hit₁ (ht.extBut hs₁.extBut hne) (by omega) fun h₂ hit₂ hs₂ => wpAny_pure ?_))
    have hd : items.toList.drop i = items[i] :: items.toList.drop (i + 1) := by simp [List.drop_eq_getElem_cons, hlt]
    have := hQ h₂ (by rw [show i + (n + 1) = i + 1 + n by omega]; exact hit₂) (hs₁.trans hs₂)
    rw [hd, List.take_succ_cons] at this
    exact this
theorem unpackItems_list {t : Addr} {items : Array Value} {Q : List Value → Shared → Prop} (hh : A.handled = none) (ht : s.heap.IsList t items)
    (hQ : ∀ h', Heap.ExtBut s.heap.objs.size s.heap h' → Q items.toList { s with heap := h' }) : wpAny (model prog w) A (unpackItems (.ref t) items.size none) Q E s := by
  have hlt : t ≠ s.heap.objs.size := by obtain ⟨o, ho, _⟩ := ht; exact Nat.ne_of_lt (Heap.lt_size ho)
  unfold unpackItems
  refine wpAny_bind ?_
  · unfold notIterableAtAll
    refine wpAny_bind (wpAny_specialOf ht.typeIs slot_list_iter.lookup ?_)
    refine wpAny_pure ?_
    simp only [Bool.false_eq_true, if_false]
    refine wpAny_bind (wpAny_holding (wpAny_pyIter_list ht ?_))
    refine wpAny_bind (wpAny_holding (draw_list hlt items.size 0 _ _ ⟨_, Heap.get?_push_size _ rfl, rfl, rfl⟩ (ht.push _) (by omega) fun h₁ hit₁ hs₁ => ?_))
    have hall : List.take items.size (List.drop 0 items.toList) = items.toList := by
      rw [List.drop_zero]; exact List.take_of_length_le (by simp)
    rw [hall]
    rw [if_neg (by simp)]
    have ht₁ : h₁.IsList t items := (ht.push _).extBut hs₁.extBut hlt
    refine wpAny_bind (wpAny_holding (wpAny_pyNext_list_end hh hit₁ ht₁ (by simp) fun h₂ he₂ => ?_))
    simp only [Option.isSome_none, Bool.false_eq_true, if_false]
    refine wpAny_pure (hQ h₂ fun b o hb e => he₂ b o hb (hs₁.extBut b o hb (Heap.get?_push_of_some _ e)))
theorem assign_Tuple_list {env : PySem.Env} {elts : List Expr} {x1} {pos : Pos} {t : Addr} {items : Array Value} {Q : Unit → Shared → Prop} (hh : A.handled = none) (ht : s.heap.IsList t items)
    (hn : (assignEach elts env).length = items.size) (hstar : (assignEach elts env).findIdx? (·.1) = none)
    (h : ∀ h', Heap.ExtBut s.heap.objs.size s.heap h' → wpAny (model prog w) A (assignInOrder ((assignEach elts env).map (·.2)) items.toList) Q E { s with heap := h' }) :
    wpAny (model prog w) A (assign (.Tuple elts x1 pos) env (.ref t)) Q E s := by
  rw [PyProof.Rows.assign_Tuple]
  refine wpAny_bind (wpAny_standAt ?_)
  unfold unpack
  rw [hn, hstar]
  exact wpAny_bind (wpAny_holding (unpackItems_list hh ht h))
end
def gLst (K : PySem.W.Frag) (n : Nat) (t : TGs) : TG := fun v σ H Q => ∃ a xs, v = .ref a ∧ SqL K H a xs ∧ xs.length = n ∧ t xs σ H Q
theorem pg_lst {X : Cx} {pos : Pos} {es : List Expr} {k : Nat} {t : TGs} {n : Nat} (hc : X.calm = true) (h : PGs X es t)
    (hn : (assignEach es X.env).length = n := by rfl) (hst : (assignEach es X.env).findIdx? (·.1) = none := by rfl) : PG X (.Tuple es k pos) (gLst X.K n t) := by
  refine ⟨fun pins s σ H v u Q I r hw => ?_⟩
  obtain ⟨a, xs, e1, hq, hl, hw⟩ := hw
  subst e1
  cases r
  obtain ⟨its, rv, ht, hz⟩ := I.list hq
  refine assign_Tuple_list (I.ok.hd hc) ht.isList (by simp [hn, ← hl, rv.length]) hst fun h' hx => ?_
  have I1 : Inv X pins σ H { s with heap := h' } := I.kept (t' := s.toks) fun b o e => hx b o (Nat.ne_of_lt (Heap.lt_size e)) e
  exact h.run pins _ σ H xs _ Q I1 (by simpa using rv) hw
namespace S
def glst (n : Nat) (f : List D → Env → Option Env) : D → Env → Option Env := fun d ρ => match d with
  | .lst ds => if ds.length = n then f ds ρ else none
  | _ => none
end S
section
variable {Γ : Gam} {k : Nat} {X : Cx} {W : WX}
theorem dg_lst {es : List Expr} {c : Nat} {f : List D → Env → Option Env} {n : Nat} {pos : Pos} (hs : DGs Γ k X W es f) (hk : 0 < k := by first | decide | omega) (hn : (assignEach es X.env).length = n := by rfl) (hst : (assignEach es X.env).findIdx? (·.1) = none := by rfl) :
    DG Γ k X W (.Tuple es c pos) (S.glst n f) := fun St => by
  obtain ⟨g, pg, rg⟩ := hs St
  refine ⟨_, pg_lst (St.calm hk) pg hn hst, fun M0 H0 σ H ρ M d v Q G hm r h => ?_⟩
  obtain ⟨ρ', e, h⟩ := h
  cases d with
  | lst ds =>
    rw [Rp] at r
    obtain ⟨a, vs, rfl, t, r⟩ := r
    unfold S.glst at e
    dsimp only at e
    split at e
    · rename_i hl
      exact ⟨a, vs, rfl, by rw [St.K]; exact t.sq, by rw [r.length, hl], rg M0 H0 σ H ρ M ds vs Q G hm r ⟨ρ', e, h⟩⟩
    · cases e
  | _ => cases e
end
set_option Elab.async false
set_option linter.all false
set_option maxRecDepth 100000
set_option maxHeartbeats 1000000
open PySem L2
section
variable (i j : Int)
theorem addI_i : addI (.int i) (.int j) = .ok (.int (i + j)) := rfl
theorem subI_i : subI (.int i) (.int j) = .ok (.int (i - j)) := rfl
theorem fdivI_i : fdivI (.int i) (.int j) = if j = 0 then .stuck else .ok (.int (i.fdiv j)) := by
  show (if j ≠ 0 then _ else _) = _
  by_cases h : j = 0 <;> simp [h]
theorem modI_i : modI (.int i) (.int j) = if j = 0 then .stuck else .ok (.int (i.fmod j)) := by
  show (if j ≠ 0 then _ else _) = _
  by_cases h : j = 0 <;> simp [h]
theorem gcdI_i : gcdI (.int i) (.int j) = .ok (.int ((Nat.gcd i.natAbs j.natAbs : Nat) : Int)) := rfl
theorem ltI_i : ltI (.int i) (.int j) = .ok (.bl (decide (i < j))) := rfl
theorem leI_i : leI (.int i) (.int j) = .ok (.bl (decide (i ≤ j))) := rfl
theorem gtI_i : gtI (.int i) (.int j) = .ok (.bl (decide (j < i))) := rfl
theorem atI_n {α : Type} (xs : List α) (n : Nat) : atI xs (n : Int) = xs[n]? := by
  unfold atI ixN
  rw [if_pos (Int.natCast_nonneg n)]
  by_cases h : (n : Int) < xs.length
  · simp [h]
  · have : xs.length ≤ n := by omega
    simp [h, this]
theorem atI_pos {α : Type} (xs : List α) {i : Int} (h : 0 ≤ i) : atI xs i = xs[i.toNat]? := by
  have e := atI_n xs i.toNat
  rw [Int.toNat_of_nonneg h] at e
  exact e
theorem pow_18 : powI (.int 10) (.int 18) = .ok (.int 1000000000000000000) := by
  unfold powI intD
  dsimp only
  rw [if_pos (by unfold CPow; decide)] <;> rfl
theorem size_eq : sizeLine = 16777216 := rfl
theorem atI_0 {α : Type} (x : α) (r : List α) : atI (x :: r) 0 = some x := atI_n _ 0
theorem atI_1 {α : Type} (x y : α) (r : List α) : atI (x :: y :: r) 1 = some y := atI_n _ 1
theorem atI_2 {α : Type} (x y z : α) (r : List α) : atI (x :: y :: z :: r) 2 = some z := atI_n _ 2
theorem atI_3 {α : Type} (x y z u : α) (r : List α) : atI (x :: y :: z :: u :: r) 3 = some u := atI_n _ 3
theorem geI_i : geI (.int i) (.int j) = .ok (.bl (decide (j ≤ i))) := rfl
end
local macro_rules
  | `(tactic| wp_walk using $ts,*) => `(tactic| simp only [runD, runF, runI, enter, E.var, E.c, E.op2, E.op1, E.nil, E.cons, E.app, E.appF, E.lst, E.and, E.or, E.not, E.ite, E.own2, E.meth, E.fld, E.prop, E.len, E.ix, E.tupl, E.disp, E.asTup, E.rng1, E.rng2, E.chain, E.cat, E.part, E.nopart, E.cutL,
      Z.own, Z.lst, Z.tup, Z.seq, Z.zip, Z.zipS, Z.enum, E.inF, E.inP, E.rep, E.lenO, catT, isB, notB, T.yes, S.setM, S.exprM, S.retP, S.retPO, S.freeze, wipeE, notOwn, Cell.isOwn, objR, T.tst, T.and, T.or, T.not, S.skip, S.brk, S.cnt, S.lift, S.seq, S.set, S.setF, S.expr, S.ret, S.retF, S.retN, S.retO, S.ite, S.tgt, S.gnil, S.gcons, S.gtup, S.asg, S.raise, S.tryO, S.fld, S.par, S.app, S.setAt, S.pop, S.forE, List.all_cons, List.all_nil, Bool.and_true, Bool.and_self,
      isiR, addI_i, subI_i, fdivI_i, modI_i, negI, absI, intC, gcdI_i, ltI_i, leI_i, gtI_i, geI_i, eqS, neS, isN, notN,
      Res.bind_ok, Res.bind_stuck, Res.bind_exc, List.map_cons, List.map_nil, List.length_cons, List.length_nil, List.getElem?_cons_zero, List.getElem?_cons_succ, List.set_cons_zero, List.set_cons_succ, List.cons_append, List.nil_append, List.append_nil, List.append_eq, List.reduceReplicate, List.replicate_zero, 
      Nat.reduceAdd, Nat.reduceSub, Nat.reduceLT, Nat.reduceLeDiff, Nat.zero_add, Nat.reduceEqDiff, and_self, and_true, true_and, reduceIte, ite_true, ite_false, if_true, if_false, Option.bind_some, Option.bind, decide_true, decide_false, Bool.not_true, Bool.not_false, Bool.false_eq_true, Bool.true_eq_false, Int.reduceNeg, ne_eq, not_true_eq_false, not_false_eq_true, Int.reduceEq, Nat.lt_add_one, Nat.zero_le, size_eq, pow_18, atI_0, atI_1, atI_2, atI_3, $[$ts:term],*])
  | `(tactic| wp_walk) => `(tactic| simp only [runD, runF, runI, enter, E.var, E.c, E.op2, E.op1, E.nil, E.cons, E.app, E.appF, E.lst, E.and, E.or, E.not, E.ite, E.own2, E.meth, E.fld, E.prop, E.len, E.ix, E.tupl, E.disp, E.asTup, E.rng1, E.rng2, E.chain, E.cat, E.part, E.nopart, E.cutL,
      Z.own, Z.lst, Z.tup, Z.seq, Z.zip, Z.zipS, Z.enum, E.inF, E.inP, E.rep, E.lenO, catT, isB, notB, T.yes, S.setM, S.exprM, S.retP, S.retPO, S.freeze, wipeE, notOwn, Cell.isOwn, objR, T.tst, T.and, T.or, T.not, S.skip, S.brk, S.cnt, S.lift, S.seq, S.set, S.setF, S.expr, S.ret, S.retF, S.retN, S.retO, S.ite, S.tgt, S.gnil, S.gcons, S.gtup, S.asg, S.raise, S.tryO, S.fld, S.par, S.app, S.setAt, S.pop, S.forE, List.all_cons, List.all_nil, Bool.and_true, Bool.and_self,
      isiR, addI_i, subI_i, fdivI_i, modI_i, negI, absI, intC, gcdI_i, ltI_i, leI_i, gtI_i, geI_i, eqS, neS, isN, notN,
      Res.bind_ok, Res.bind_stuck, Res.bind_exc, List.map_cons, List.map_nil, List.length_cons, List.length_nil, List.getElem?_cons_zero, List.getElem?_cons_succ, List.set_cons_zero, List.set_cons_succ, List.cons_append, List.nil_append, List.append_nil, List.append_eq, List.reduceReplicate, List.replicate_zero, 
      Nat.reduceAdd, Nat.reduceSub, Nat.reduceLT, Nat.reduceLeDiff, Nat.zero_add, Nat.reduceEqDiff, and_self, and_true, true_and, reduceIte, ite_true, ite_false, if_true, if_false, Option.bind_some, Option.bind, decide_true, decide_false, Bool.not_true, Bool.not_false, Bool.false_eq_true, Bool.true_eq_false, Int.reduceNeg, ne_eq, not_true_eq_false, not_false_eq_true, Int.reduceEq, Nat.lt_add_one, Nat.zero_le, size_eq, pow_18, atI_0, atI_1, atI_2, atI_3])
/-- (kept apart: the kernel must not meet the bound beside a cast) -/
theorem rng1_ok {f : Env → Res D} {ρ : Env} {j : Int} (h : f ρ = .ok (.int j)) (hj : j < 1000000) (h0 : -1000000 < j) : E.rng1 f ρ = .ok (rngD 0 j.toNat) := by
  unfold E.rng1
  rw [h]
  simp only [Res.bind_ok]
  rw [if_pos ⟨by omega, by omega⟩]
theorem rng1_n {f : Env → Res D} {ρ : Env} {n : Nat} (h : f ρ = .ok (.int n)) (hn : n < 1000000) : E.rng1 f ρ = .ok (rngD 0 n) := by
  rw [rng1_ok h (by omega) (by omega), Int.toNat_natCast]
/-! ### sizes -/
theorem bits_le {x : Int} {n : Nat} (h : x.natAbs < 2 ^ n) : Builtin.Int.intBits x ≤ n := by
  unfold Builtin.Int.intBits
  split
  · exact Nat.zero_le n
  · rename_i q
    have x0 : x.natAbs ≠ 0 := fun z => q (by simp [Int.natAbs_eq_zero.mp z])
    have := (Nat.log2_lt x0).mpr h
    omega
theorem lt_of_bits {x : Int} {n : Nat} (h : Builtin.Int.intBits x ≤ n) : x.natAbs < 2 ^ n := by
  unfold Builtin.Int.intBits at h
  split at h
  · rename_i q
    rw [beq_iff_eq.mp q]
    exact Nat.two_pow_pos n
  · rename_i q
    have x0 : x.natAbs ≠ 0 := fun z => q (by simp [Int.natAbs_eq_zero.mp z])
    exact (Nat.log2_lt x0).mp (by omega)
theorem mulok {x y : Int} {n m : Nat} (hx : x.natAbs < 2 ^ n) (hy : y.natAbs < 2 ^ m) (h : n + m ≤ 100000000) : IntMulOk x y := by
  have a := bits_le hx
  have b := bits_le hy
  unfold IntMulOk
  simp only [Bool.and_eq_true, not_and, Builtin.Int.intTooBig, decide_eq_true_eq]
  intro _ q
  have e : (bitsLine : Int) = 134217728 := by decide
  omega
theorem mulok1 {x y : Int} (hy : y.natAbs < 2 ^ 64) : IntMulOk x y := by
  have b := bits_le hy
  unfold IntMulOk
  simp only [Bool.and_eq_true, not_and, decide_eq_true_eq]
  intro q
  have e : shortFactorBits = 64 := rfl
  omega
theorem mul_lt {x y : Int} {n m : Nat} (hx : x.natAbs < 2 ^ n) (hy : y.natAbs < 2 ^ m) : (x * y).natAbs < 2 ^ (n + m) := by
  rw [Int.natAbs_mul, Nat.pow_add]
  exact Nat.mul_lt_mul'' hx hy
theorem add_lt {x y : Int} {n : Nat} (hx : x.natAbs < 2 ^ n) (hy : y.natAbs < 2 ^ n) : (x + y).natAbs < 2 ^ (n + 1) := by
  have := Int.natAbs_add_le x y
  rw [Nat.pow_succ]
  omega
theorem sub_lt {x y : Int} {n : Nat} (hx : x.natAbs < 2 ^ n) (hy : y.natAbs < 2 ^ n) : (x - y).natAbs < 2 ^ (n + 1) := by
  have := Int.natAbs_sub_le x y
  rw [Nat.pow_succ]
  omega
theorem pow_mono {x n m : Nat} (h : x < 2 ^ n) (k : n ≤ m) : x < 2 ^ m := Nat.lt_of_lt_of_le h (Nat.pow_le_pow_right (by decide) k)
/-- numerator and denominator have at most n bits -/
structure Qb (n : Nat) (q : Rat) : Prop where
  num : q.num.natAbs < 2 ^ n
  den : q.den < 2 ^ n
theorem Qb.mono {n m : Nat} {q : Rat} (h : Qb n q) (k : n ≤ m) : Qb m q := ⟨pow_mono h.num k, pow_mono h.den k⟩
theorem Qb.den' {n : Nat} {q : Rat} (h : Qb n q) : ((q.den : Int)).natAbs < 2 ^ n := h.den
theorem natAbs_ediv_le (a : Int) (b : Nat) : (a / (b : Int)).natAbs ≤ a.natAbs := Int.natAbs_ediv_le_natAbs a b
theorem divInt_num_le (n d : Int) : (Rat.divInt n d).num.natAbs ≤ n.natAbs := by
  rw [Rat.num_divInt]
  have h := Int.natAbs_ediv_le_natAbs (d.sign * n) (d.gcd n)
  have e : (d.sign * n).natAbs ≤ n.natAbs := by
    rw [Int.natAbs_mul]
    have : d.sign.natAbs ≤ 1 := by
      rcases Int.sign_trichotomy d with h | h | h <;> rw [h] <;> decide
    exact Nat.le_trans (Nat.mul_le_mul_right _ this) (by omega)
  omega
theorem divInt_den_le (n d : Int) (h : d ≠ 0) : (Rat.divInt n d).den ≤ d.natAbs := by
  rw [Rat.den_divInt, if_neg h]
  exact Nat.div_le_self _ _
theorem Qb.divInt {n d : Int} {k : Nat} (hn : n.natAbs < 2 ^ k) (hd : d.natAbs < 2 ^ k) (h : d ≠ 0) : Qb k (Rat.divInt n d) := ⟨Nat.lt_of_le_of_lt (divInt_num_le n d) hn, Nat.lt_of_le_of_lt (divInt_den_le n d h) hd⟩
theorem den_ne (q : Rat) : (q.den : Int) ≠ 0 := by exact_mod_cast q.den_nz
theorem add_q (a b : Rat) : Rat.divInt (a.num * b.den + b.num * a.den) (a.den * b.den) = a + b := by
  rw [← Rat.divInt_add_divInt a.num b.num (den_ne a) (den_ne b), Rat.num_divInt_den, Rat.num_divInt_den]
theorem sub_q (a b : Rat) : Rat.divInt (a.num * b.den - b.num * a.den) (a.den * b.den) = a - b := by
  have h := Rat.divInt_add_divInt a.num (-b.num) (den_ne a) (den_ne b)
  rw [← Rat.neg_divInt, Rat.num_divInt_den, Rat.num_divInt_den, ← Rat.sub_eq_add_neg] at h
  rw [h]
  congr 1
  grind
theorem mul_q (a b : Rat) : Rat.divInt (a.num * b.num) (a.den * b.den) = a * b := by
  rw [← Rat.divInt_mul_divInt, Rat.num_divInt_den, Rat.num_divInt_den]
theorem inv_q (a : Rat) : Rat.divInt a.den a.num = a⁻¹ := (Rat.inv_def a).symm
theorem neg_q (a : Rat) : Rat.divInt (-a.num) a.den = -a := by rw [← Rat.neg_divInt, Rat.num_divInt_den]
theorem div_q (a b : Rat) : Rat.divInt (a.num * b.den) (a.den * b.num) = a / b := by
  rw [Rat.div_def, ← inv_q b, ← Rat.divInt_mul_divInt]
  first | rw [Rat.num_divInt_den]
theorem Qb.add {n m : Nat} {a b : Rat} (ha : Qb n a) (hb : Qb m b) : Qb (n + m + 1) (a + b) := by
  rw [← add_q]
  refine .divInt (add_lt (mul_lt ha.num hb.den') ?_) (pow_mono (mul_lt ha.den' hb.den') (by omega)) (Int.mul_ne_zero (den_ne a) (den_ne b))
  rw [Nat.add_comm n m]
  exact mul_lt hb.num ha.den'
theorem Qb.sub {n m : Nat} {a b : Rat} (ha : Qb n a) (hb : Qb m b) : Qb (n + m + 1) (a - b) := by
  rw [← sub_q]
  refine .divInt (sub_lt (mul_lt ha.num hb.den') ?_) (pow_mono (mul_lt ha.den' hb.den') (by omega)) (Int.mul_ne_zero (den_ne a) (den_ne b))
  rw [Nat.add_comm n m]
  exact mul_lt hb.num ha.den'
theorem Qb.mul {n m : Nat} {a b : Rat} (ha : Qb n a) (hb : Qb m b) : Qb (n + m) (a * b) := by
  rw [← mul_q]
  exact .divInt (mul_lt ha.num hb.num) (mul_lt ha.den' hb.den') (Int.mul_ne_zero (den_ne a) (den_ne b))
theorem Qb.neg {n : Nat} {a : Rat} (ha : Qb n a) : Qb n (-a) := by
  rw [← neg_q]
  exact .divInt (by rw [Int.natAbs_neg]; exact ha.num) ha.den' (den_ne a)
theorem Qb.zero : Qb 1 0 := ⟨by decide, by decide⟩
theorem Qb.one : Qb 1 1 := ⟨by decide, by decide⟩
theorem Qb.inv {n : Nat} {a : Rat} (ha : Qb n a) (hn : 1 ≤ n) : Qb n a⁻¹ := by
  by_cases z : a.num = 0
  · rw [← inv_q, z]
    exact Qb.mono (show Qb 1 (Rat.divInt (a.den : Int) 0) by rw [Rat.divInt_zero]; exact Qb.zero) hn
  · rw [← inv_q]
    exact .divInt ha.den' ha.num z
theorem Qb.div {n m : Nat} {a b : Rat} (ha : Qb n a) (hb : Qb m b) (hm : 1 ≤ m) : Qb (n + m) (a / b) := by
  rw [Rat.div_def]
  exact ha.mul (hb.inv hm)
theorem Qb.pow {n : Nat} {a : Rat} (ha : Qb n a) : ∀ k : Nat, Qb (n * k + 1) (a ^ k)
  | 0 => by rw [Rat.pow_zero]; exact Qb.one.mono (by omega)
  | k + 1 => by
    rw [Rat.pow_succ]
    exact ((Qb.pow ha k).mul ha).mono (by rw [Nat.mul_succ]; omega)
set_option Elab.async false
set_option linter.all false
set_option maxRecDepth 100000
set_option maxHeartbeats 1000000
/-! ### elimination over lists of rationals (no program in sight) -/
abbrev Tab := List (List Rat)
def rowAt (T : Tab) (k : Nat) : List Rat := T.getD k []
def en (T : Tab) (k j : Nat) : Rat := (rowAt T k).getD j 0
def Wid (w : Nat) (T : Tab) : Prop := ∀ r ∈ T, r.length = w
def smul (q : Rat) (r : List Rat) : List Rat := r.map fun x => q * x
def axpy (f : Rat) (x y : List Rat) : List Rat := List.zipWith (fun a b => a - f * b) x y
theorem rowAt_mem {T : Tab} {k : Nat} (h : k < T.length) : rowAt T k ∈ T := by
  unfold rowAt
  rw [List.getD_eq_getElem?_getD, List.getElem?_eq_getElem h]
  exact List.getElem_mem h
theorem mem_rowAt {T : Tab} {r : List Rat} (h : r ∈ T) : ∃ k, k < T.length ∧ rowAt T k = r := by
  obtain ⟨k, hk, e⟩ := List.getElem_of_mem h
  refine ⟨k, hk, ?_⟩
  unfold rowAt
  rw [List.getD_eq_getElem?_getD, List.getElem?_eq_getElem hk]
  exact e
theorem all_rows {T : Tab} {P : List Rat → Prop} : (∀ r ∈ T, P r) ↔ ∀ k, k < T.length → P (rowAt T k) :=
  ⟨fun h k hk => h _ (rowAt_mem hk), fun h r hr => by
    obtain ⟨k, hk, e⟩ := mem_rowAt hr
    rw [← e]
    exact h k hk⟩
theorem rowAt_len {w : Nat} {T : Tab} (h : Wid w T) {k : Nat} (hk : k < T.length) : (rowAt T k).length = w := h _ (rowAt_mem hk)
theorem rowAt_some {T : Tab} {k : Nat} (h : k < T.length) : T[k]? = some (rowAt T k) := by
  unfold rowAt
  rw [List.getD_eq_getElem?_getD, List.getElem?_eq_getElem h]
  rfl
theorem getD_some {r : List Rat} {j : Nat} (h : j < r.length) : r[j]? = some (r.getD j 0) := by
  rw [List.getD_eq_getElem?_getD, List.getElem?_eq_getElem h]
  rfl
theorem smul_getD (q : Rat) (r : List Rat) (j : Nat) : (smul q r).getD j 0 = q * r.getD j 0 := by
  unfold smul
  rw [List.getD_eq_getElem?_getD, List.getD_eq_getElem?_getD, List.getElem?_map]
  cases r[j]? with
  | none => show (0 : Rat) = q * 0; rw [Rat.mul_zero]
  | some x => rfl
theorem axpy_getD {f : Rat} {x y : List Rat} (h : x.length = y.length) (j : Nat) : (axpy f x y).getD j 0 = x.getD j 0 - f * y.getD j 0 := by
  unfold axpy
  rw [List.getD_eq_getElem?_getD, List.getD_eq_getElem?_getD, List.getD_eq_getElem?_getD, List.getElem?_zipWith]
  by_cases hj : j < x.length
  · rw [List.getElem?_eq_getElem hj, List.getElem?_eq_getElem (h ▸ hj)]
    rfl
  · rw [List.getElem?_eq_none (by omega), List.getElem?_eq_none (by omega)]
    show (0 : Rat) = 0 - f * 0
    grind
theorem smul_len (q : Rat) (r : List Rat) : (smul q r).length = r.length := by unfold smul; rw [List.length_map]
theorem axpy_len {f : Rat} {x y : List Rat} (h : x.length = y.length) : (axpy f x y).length = x.length := by unfold axpy; rw [List.length_zipWith]; omega
theorem row_ext {x y : List Rat} (hl : x.length = y.length) (h : ∀ j, x.getD j 0 = y.getD j 0) : x = y := by
  apply List.ext_getElem hl
  intro j h1 h2
  have := h j
  rw [List.getD_eq_getElem?_getD, List.getD_eq_getElem?_getD, List.getElem?_eq_getElem h1, List.getElem?_eq_getElem h2] at this
  exact this
theorem smul_smul {p q : Rat} {r : List Rat} (h : p * q = 1) : smul p (smul q r) = r := by
  apply row_ext (by rw [smul_len, smul_len])
  intro j
  rw [smul_getD, smul_getD]
  grind
theorem axpy_back {f : Rat} {x y : List Rat} (h : x.length = y.length) : axpy (-f) (axpy f x y) y = x := by
  apply row_ext (by rw [axpy_len (by rw [axpy_len h, h]), axpy_len h])
  intro j
  rw [axpy_getD (by rw [axpy_len h, h]), axpy_getD h]
  grind
/-- linear conditions on rows of the width w -/
structure Lin (w : Nat) (P : List Rat → Prop) : Prop where
  sm : ∀ q r, r.length = w → P r → P (smul q r)
  ax : ∀ f x y, x.length = w → y.length = w → P x → P y → P (axpy f x y)
/-! the step -/
def piv1 (c d i : Nat) (T : Tab) : List Rat := smul (en T i c)⁻¹ (rowAt T i)
def sw1 (d i : Nat) (T : Tab) (k : Nat) : List Rat := if k = i then rowAt T d else rowAt T k
def elimCol (c d i : Nat) (T : Tab) : Tab := ((T.set i (rowAt T d)).set d (piv1 c d i T)).mapIdx fun k r => if k = d then r else axpy (r.getD c 0) r (piv1 c d i T)
theorem elimCol_length (c d i : Nat) (T : Tab) : (elimCol c d i T).length = T.length := by
  unfold elimCol
  rw [List.length_mapIdx, List.length_set, List.length_set]
theorem elimCol_row {c d i : Nat} {T : Tab} (hd : d < T.length) (hi : i < T.length) {k : Nat} (hk : k < T.length) :
    rowAt (elimCol c d i T) k = if k = d then piv1 c d i T else axpy ((sw1 d i T k).getD c 0) (sw1 d i T k) (piv1 c d i T) := by
  have e : (elimCol c d i T)[k]? = some (if k = d then piv1 c d i T else axpy ((sw1 d i T k).getD c 0) (sw1 d i T k) (piv1 c d i T)) := by
    unfold elimCol
    rw [List.getElem?_mapIdx, List.getElem?_set]
    by_cases h : d = k
    · subst h
      rw [if_pos rfl, if_pos (by rw [List.length_set]; exact hd)]
      simp
    · rw [if_neg h, List.getElem?_set]
      have h' : ¬ k = d := fun z => h z.symm
      unfold sw1
      by_cases h2 : i = k
      · subst h2
        rw [if_pos rfl, if_pos hi]
        simp [h']
      · have h2' : ¬ k = i := fun z => h2 z.symm
        rw [if_neg h2, rowAt_some hk]
        simp [h', h2']
  show (elimCol c d i T).getD k [] = _
  rw [List.getD_eq_getElem?_getD, e]
  rfl
def firstNZ (c d : Nat) (T : Tab) : Option Nat := (List.range' d (T.length - d)).find? fun i => decide (en T i c ≠ 0)
theorem firstNZ_some {c d i : Nat} {T : Tab} (h : firstNZ c d T = some i) : d ≤ i ∧ i < T.length ∧ en T i c ≠ 0 := by
  unfold firstNZ at h
  have h1 := List.mem_of_find?_eq_some h
  have h2 := List.find?_some h
  rw [List.mem_range'_1] at h1
  exact ⟨h1.1, by omega, by simpa using h2⟩
theorem firstNZ_none {c d : Nat} {T : Tab} (h : firstNZ c d T = none) {k : Nat} (h1 : d ≤ k) (h2 : k < T.length) : en T k c = 0 := by
  unfold firstNZ at h
  rw [List.find?_eq_none] at h
  have := h k (by rw [List.mem_range'_1]; omega)
  simpa using this
def gstep (s : Tab × List Nat) (c : Nat) : Tab × List Nat := match firstNZ c s.2.length s.1 with
  | none => s
  | some i => (elimCol c s.2.length i s.1, s.2 ++ [c])
def gauss (w : Nat) (T : Tab) : Tab × List Nat := (List.range w).foldl gstep (T, [])
/-- what holds when the columns below c are done -/
structure Red (w c : Nat) (T : Tab) (ps : List Nat) : Prop where
  wid : Wid w T
  len : ps.length ≤ T.length
  lt : ∀ p ∈ ps, p < c
  inc : ∀ a b, a < b → b < ps.length → ps.getD a 0 < ps.getD b 0
  one : ∀ i, i < ps.length → ∀ k, k < T.length → en T k (ps.getD i 0) = if k = i then 1 else 0
  low : ∀ k, ps.length ≤ k → k < T.length → ∀ j, j < c → en T k j = 0
  lead : ∀ i, i < ps.length → ∀ j, j < ps.getD i 0 → en T i j = 0
theorem getD_mem {ps : List Nat} {i : Nat} (h : i < ps.length) : ps.getD i 0 ∈ ps := by
  rw [List.getD_eq_getElem?_getD, List.getElem?_eq_getElem h]
  exact List.getElem_mem h
theorem getD_app_l {ps qs : List Nat} {i : Nat} (h : i < ps.length) : (ps ++ qs).getD i 0 = ps.getD i 0 := by
  rw [List.getD_eq_getElem?_getD, List.getD_eq_getElem?_getD, List.getElem?_append_left h]
theorem getD_app_e {ps : List Nat} {c : Nat} : (ps ++ [c]).getD ps.length 0 = c := by
  rw [List.getD_eq_getElem?_getD, List.getElem?_append_right (Nat.le_refl _)]
  simp
section
variable {w c : Nat} {T : Tab} {ps : List Nat}
theorem sw1_len (h : Wid w T) {d i k : Nat} (hd : d < T.length) (hk : k < T.length) : (sw1 d i T k).length = w := by
  unfold sw1
  split
  · exact rowAt_len h hd
  · exact rowAt_len h hk
theorem piv1_len (h : Wid w T) {d i : Nat} (hi : i < T.length) : (piv1 c d i T).length = w := by
  unfold piv1
  rw [smul_len]
  exact rowAt_len h hi
theorem en_d (h : Wid w T) {d i : Nat} (hd : d < T.length) (hi : i < T.length) (j : Nat) : en (elimCol c d i T) d j = (en T i c)⁻¹ * en T i j := by
  unfold en
  rw [elimCol_row hd hi hd, if_pos rfl]
  unfold piv1
  rw [smul_getD]
  rfl
theorem en_k (h : Wid w T) {d i : Nat} (hd : d < T.length) (hi : i < T.length) {k : Nat} (hk : k < T.length) (n : k ≠ d) (j : Nat) :
    en (elimCol c d i T) k j = en T (if k = i then d else k) j - en T (if k = i then d else k) c * en (elimCol c d i T) d j := by
  have e : sw1 d i T k = rowAt T (if k = i then d else k) := by
    unfold sw1
    split <;> rfl
  rw [en_d h hd hi]
  unfold en
  rw [elimCol_row hd hi hk, if_neg n, axpy_getD (by rw [sw1_len h hd hk, piv1_len h hi]), e]
  unfold piv1
  rw [smul_getD]
  rfl
theorem elimCol_wid (h : Wid w T) {d i : Nat} (hd : d < T.length) (hi : i < T.length) : Wid w (elimCol c d i T) := by
  unfold Wid
  rw [all_rows]
  intro k hk
  rw [elimCol_length] at hk
  rw [elimCol_row hd hi hk]
  split
  · exact piv1_len h hi
  · rw [axpy_len (by rw [sw1_len h hd hk, piv1_len h hi])]
    exact sw1_len h hd hk
theorem Red.start (h : Wid w T) : Red w 0 T [] := ⟨h, Nat.zero_le _, by simp, fun a b _ hb => absurd hb (by simp), fun i hi => absurd hi (by simp), fun k _ _ j hj => absurd hj (by omega), fun i hi => absurd hi (by simp)⟩
theorem Red.step (R : Red w c T ps) : Red w (c + 1) (gstep (T, ps) c).1 (gstep (T, ps) c).2 := by
  unfold gstep
  dsimp only
  cases q : firstNZ c ps.length T with
  | none =>
    refine ⟨R.wid, R.len, fun p hp => Nat.lt_succ_of_lt (R.lt p hp), R.inc, R.one, fun k h1 h2 j hj => ?_, R.lead⟩
    by_cases e : j = c
    · subst e
      exact firstNZ_none q h1 h2
    · exact R.low k h1 h2 j (by omega)
  | some i0 =>
    obtain ⟨h1, h2, h3⟩ := firstNZ_some q
    have hd : ps.length < T.length := by omega
    have z0 : ∀ j, j < c → en (elimCol c ps.length i0 T) ps.length j = 0 := fun j hj => by
      rw [en_d R.wid hd h2, R.low i0 h1 h2 j hj, Rat.mul_zero]
    have one1 : en (elimCol c ps.length i0 T) ps.length c = 1 := by
      rw [en_d R.wid hd h2]
      grind
    refine ⟨elimCol_wid R.wid hd h2, ?_, fun p hp => ?_, fun a b hab hb => ?_, fun i hi k hk => ?_, fun k hk1 hk2 j hj => ?_, fun i hi j hj => ?_⟩
    · rw [List.length_append, elimCol_length]
      exact hd
    · rcases List.mem_append.mp hp with hp | hp
      · exact Nat.lt_succ_of_lt (R.lt p hp)
      · rw [List.mem_singleton.mp hp]; exact Nat.lt_succ_self c
    · rw [List.length_append, List.length_singleton] at hb
      by_cases e : b = ps.length
      · subst e
        rw [getD_app_e, getD_app_l hab]
        exact R.lt _ (getD_mem hab)
      · rw [getD_app_l (show b < ps.length by omega), getD_app_l (show a < ps.length by omega)]
        exact R.inc a b hab (by omega)
    · rw [List.length_append, List.length_singleton] at hi
      rw [elimCol_length] at hk
      by_cases e : i = ps.length
      · subst e
        rw [getD_app_e]
        by_cases ek : k = ps.length
        · rw [if_pos ek, ek, one1]
        · rw [if_neg ek, en_k R.wid hd h2 hk ek, one1]
          grind
      · have hi' : i < ps.length := by omega
        rw [getD_app_l hi']
        have hp := R.lt _ (getD_mem hi')
        by_cases ek : k = ps.length
        · rw [ek, z0 _ hp, if_neg fun z => e z.symm]
        · rw [en_k R.wid hd h2 hk ek, z0 _ hp, Rat.mul_zero]
          have := R.one i hi' (if k = i0 then ps.length else k) (by split <;> assumption)
          rw [this]
          by_cases e1 : k = i0
          · rw [if_pos e1, if_neg fun z => e z.symm, if_neg fun z => by omega]
            grind
          · rw [if_neg e1]
            grind
    · rw [List.length_append, List.length_singleton] at hk1
      rw [elimCol_length] at hk2
      rw [en_k R.wid hd h2 hk2 (by omega)]
      by_cases e : j = c
      · subst e
        rw [one1]
        grind
      · rw [z0 j (by omega), R.low _ (by split <;> omega) (by split <;> assumption) j (by omega)]
        grind
    · rw [List.length_append, List.length_singleton] at hi
      by_cases e : i = ps.length
      · subst e
        rw [getD_app_e] at hj
        exact z0 j hj
      · have hi' : i < ps.length := by omega
        rw [getD_app_l hi'] at hj
        have hp := R.lt _ (getD_mem hi')
        rw [en_k R.wid hd h2 (by omega) e, z0 j (by omega), if_neg (by omega), R.lead i hi' j hj]
        grind
theorem gauss_red_aux (h : Wid w T) : ∀ m, Red w m ((List.range m).foldl gstep (T, [])).1 ((List.range m).foldl gstep (T, [])).2
  | 0 => Red.start h
  | m + 1 => by
    rw [List.range_succ, List.foldl_append]
    exact (gauss_red_aux h m).step
theorem gauss_red (h : Wid w T) (m : Nat) : Red w m (gauss m T).1 (gauss m T).2 := gauss_red_aux h m
theorem gstep_length (s : Tab × List Nat) (c : Nat) : (gstep s c).1.length = s.1.length := by
  unfold gstep
  split
  · rfl
  · exact elimCol_length _ _ _ _
theorem gauss_length (m : Nat) (T : Tab) : (gauss m T).1.length = T.length := by
  unfold gauss
  have : ∀ (l : List Nat) (s : Tab × List Nat), (l.foldl gstep s).1.length = s.1.length := fun l => by
    induction l with
    | nil => intro s; rfl
    | cons a r ih => intro s; rw [List.foldl_cons, ih, gstep_length]
  exact this _ _
theorem elimCol_lin {P : List Rat → Prop} (L : Lin w P) (h : Wid w T) {d i : Nat} (hd : d < T.length) (hi : i < T.length) (nz : en T i c ≠ 0) : (∀ r ∈ elimCol c d i T, P r) ↔ ∀ r ∈ T, P r := by
  have ld := piv1_len (c := c) (d := d) h hi
  constructor
  · intro hP
    have hp : P (piv1 c d i T) := by
      have := hP _ (rowAt_mem (k := d) (by rw [elimCol_length]; exact hd))
      rw [elimCol_row hd hi hd, if_pos rfl] at this
      exact this
    have hs : ∀ k, k < T.length → k ≠ d → P (sw1 d i T k) := fun k hk n => by
      have := hP _ (rowAt_mem (k := k) (by rw [elimCol_length]; exact hk))
      rw [elimCol_row hd hi hk, if_neg n] at this
      have e : (sw1 d i T k).length = (piv1 c d i T).length := by rw [sw1_len h hd hk, ld]
      have := L.ax (-((sw1 d i T k).getD c 0)) _ _ (by rw [axpy_len e, sw1_len h hd hk]) ld this hp
      rw [axpy_back e] at this
      exact this
    rw [all_rows]
    intro k hk
    have hi1 : P (rowAt T i) := by
      have := L.sm (en T i c) _ ld hp
      unfold piv1 at this
      rw [smul_smul (by grind)] at this
      exact this
    by_cases e : k = i
    · rw [e]; exact hi1
    · by_cases e2 : k = d
      · rw [e2]
        have := hs i hi (fun z => e (by rw [e2, z]))
        unfold sw1 at this
        rw [if_pos rfl] at this
        exact this
      · have := hs k hk e2
        unfold sw1 at this
        rw [if_neg e] at this
        exact this
  · intro hP
    have hp : P (piv1 c d i T) := L.sm _ _ (rowAt_len h hi) (hP _ (rowAt_mem hi))
    rw [all_rows]
    intro k hk
    rw [elimCol_length] at hk
    rw [elimCol_row hd hi hk]
    split
    · exact hp
    · refine L.ax _ _ _ (sw1_len h hd hk) ld ?_ hp
      unfold sw1
      split
      · exact hP _ (rowAt_mem hd)
      · exact hP _ (rowAt_mem hk)
theorem gauss_lin {P : List Rat → Prop} (L : Lin w P) (h : Wid w T) (m : Nat) : (∀ r ∈ (gauss m T).1, P r) ↔ ∀ r ∈ T, P r := by
  induction m with
  | zero => exact Iff.rfl
  | succ m ih =>
    rw [← ih]
    have R := gauss_red h m
    have e : gauss (m + 1) T = gstep (gauss m T) m := by
      unfold gauss
      rw [List.range_succ, List.foldl_append]
      rfl
    rw [e]
    unfold gstep
    cases q : firstNZ m (gauss m T).2.length (gauss m T).1 with
    | none => exact Iff.rfl
    | some i =>
      obtain ⟨h1, h2, h3⟩ := firstNZ_some q
      exact elimCol_lin L R.wid (by omega) h2 h3
/-- the sizes of a table -/
def Siz (n : Nat) (T : Tab) : Prop := ∀ r ∈ T, ∀ q ∈ r, Qb n q
theorem smul_siz {n m : Nat} {q : Rat} {r : List Rat} (hq : Qb n q) (hr : ∀ x ∈ r, Qb m x) : ∀ x ∈ smul q r, Qb (n + m) x := by
  intro x hx
  unfold smul at hx
  obtain ⟨y, hy, rfl⟩ := List.mem_map.mp hx
  exact hq.mul (hr y hy)
theorem mem_zipWith {α β γ : Type} {f : α → β → γ} : ∀ {xs : List α} {ys : List β} {z : γ}, z ∈ List.zipWith f xs ys → ∃ x ∈ xs, ∃ y ∈ ys, z = f x y
  | [], _, _, h => by simp at h
  | _ :: _, [], _, h => by simp at h
  | x :: xs, y :: ys, z, h => by
    rw [List.zipWith_cons_cons] at h
    rcases List.mem_cons.mp h with h | h
    · exact ⟨x, by simp, y, by simp, h⟩
    · obtain ⟨a, ha, b, hb, e⟩ := mem_zipWith h
      exact ⟨a, by simp [ha], b, by simp [hb], e⟩
theorem axpy_siz {n m k : Nat} {f : Rat} {x y : List Rat} (hf : Qb k f) (hx : ∀ z ∈ x, Qb n z) (hy : ∀ z ∈ y, Qb m z) : ∀ z ∈ axpy f x y, Qb (n + (k + m) + 1) z := by
  intro z hz
  unfold axpy at hz
  obtain ⟨a, ha, b, hb, rfl⟩ := mem_zipWith hz
  exact (hx a ha).sub (hf.mul (hy b hb))
theorem getD_siz {n : Nat} {r : List Rat} (hn : 1 ≤ n) (hr : ∀ x ∈ r, Qb n x) (j : Nat) : Qb n (r.getD j 0) := by
  rw [List.getD_eq_getElem?_getD]
  cases q : r[j]? with
  | none => exact Qb.zero.mono hn
  | some x => exact hr x (List.mem_of_getElem? q)
theorem row_siz {n : Nat} (h : Siz n T) (k : Nat) : ∀ x ∈ rowAt T k, Qb n x := by
  unfold rowAt
  rw [List.getD_eq_getElem?_getD]
  cases q : T[k]? with
  | none => intro x hx; cases hx
  | some r => exact h r (List.mem_of_getElem? q)
theorem piv1_siz {n : Nat} (hn : 1 ≤ n) (h : Siz n T) (d i : Nat) : ∀ x ∈ piv1 c d i T, Qb (n + n) x := smul_siz ((getD_siz hn (row_siz h i) c).inv hn) (row_siz h i)
theorem sw1_siz {n : Nat} (h : Siz n T) (d i k : Nat) : ∀ x ∈ sw1 d i T k, Qb n x := by
  unfold sw1
  split
  · exact row_siz h d
  · exact row_siz h k
theorem elimCol_siz {n : Nat} (hn : 1 ≤ n) (h : Siz n T) {d i : Nat} (hd : d < T.length) (hi : i < T.length) : Siz (5 * n) (elimCol c d i T) := by
  unfold Siz
  rw [all_rows]
  intro k hk
  rw [elimCol_length] at hk
  rw [elimCol_row hd hi hk]
  split
  · exact fun x hx => (piv1_siz hn h d i x hx).mono (by omega)
  · exact fun x hx => (axpy_siz (getD_siz hn (sw1_siz h d i k) c) (sw1_siz h d i k) (piv1_siz hn h d i) x hx).mono (by omega)
theorem gstep_siz {n : Nat} (hn : 1 ≤ n) {s : Tab × List Nat} (h : Siz n s.1) (c : Nat) (hl : s.2.length ≤ s.1.length) : Siz (5 * n) (gstep s c).1 := by
  unfold gstep
  cases q : firstNZ c s.2.length s.1 with
  | none => exact fun r hr x hx => (h r hr x hx).mono (by omega)
  | some i =>
    obtain ⟨h1, h2, h3⟩ := firstNZ_some q
    exact elimCol_siz hn h (by omega) h2
theorem gauss_siz {n : Nat} (hn : 1 ≤ n) (hw : Wid w T) (h : Siz n T) : ∀ m, Siz (5 ^ m * n) (gauss m T).1
  | 0 => by
    rw [Nat.pow_zero, Nat.one_mul]
    exact h
  | m + 1 => by
    have e : gauss (m + 1) T = gstep (gauss m T) m := by
      unfold gauss
      rw [List.range_succ, List.foldl_append]
      rfl
    rw [e, Nat.pow_succ, Nat.mul_comm (5 ^ m) 5, Nat.mul_assoc]
    exact gstep_siz (Nat.mul_pos (Nat.pow_pos (by decide)) hn) (gauss_siz hn hw h m) m (gauss_red hw m).len
end
set_option Elab.async false
set_option linter.all false
set_option maxRecDepth 100000
set_option maxHeartbeats 1000000
/-! ### sums, products of rows, solutions and kernels -/
def sumN (f : Nat → Rat) : Nat → Rat
  | 0 => 0
  | n + 1 => sumN f n + f n
theorem sumN_congr {f g : Nat → Rat} : ∀ {n : Nat}, (∀ k, k < n → f k = g k) → sumN f n = sumN g n
  | 0, _ => rfl
  | n + 1, h => by rw [sumN, sumN, sumN_congr fun k hk => h k (by omega), h n (by omega)]
theorem sumN_add (f g : Nat → Rat) : ∀ n, sumN (fun k => f k + g k) n = sumN f n + sumN g n
  | 0 => by rw [sumN, sumN, sumN]; grind
  | n + 1 => by rw [sumN, sumN, sumN, sumN_add f g n]; grind
theorem sumN_smul (c : Rat) (f : Nat → Rat) : ∀ n, sumN (fun k => c * f k) n = c * sumN f n
  | 0 => by rw [sumN, sumN, Rat.mul_zero]
  | n + 1 => by rw [sumN, sumN, sumN_smul c f n]; grind
theorem sumN_sub (f g : Nat → Rat) : ∀ n, sumN (fun k => f k - g k) n = sumN f n - sumN g n
  | 0 => by rw [sumN, sumN, sumN]; grind
  | n + 1 => by rw [sumN, sumN, sumN, sumN_sub f g n]; grind
theorem sumN_zero {f : Nat → Rat} : ∀ {n : Nat}, (∀ k, k < n → f k = 0) → sumN f n = 0
  | 0, _ => rfl
  | n + 1, h => by rw [sumN, sumN_zero fun k hk => h k (by omega), h n (by omega)]; grind
theorem sumN_single {f : Nat → Rat} {i : Nat} : ∀ {n : Nat}, i < n → (∀ k, k < n → k ≠ i → f k = 0) → sumN f n = f i
  | 0, h, _ => by omega
  | n + 1, h, k => by
    rw [sumN]
    by_cases e : i = n
    · subst e
      rw [sumN_zero fun j hj => k j (by omega) (by omega)]
      grind
    · rw [sumN_single (by omega) fun j hj => k j (by omega), k n (by omega) fun z => e z.symm]
      grind
theorem sumN_swap (f : Nat → Nat → Rat) (m : Nat) : ∀ n, sumN (fun i => sumN (fun j => f i j) m) n = sumN (fun j => sumN (fun i => f i j) n) m
  | 0 => by rw [sumN]; exact (sumN_zero fun _ _ => rfl).symm
  | n + 1 => by
    rw [sumN, sumN_swap f m n, ← sumN_add]
    rfl
theorem sumN_app {l r : List Nat} {F : Nat → Rat} : sumN (fun t => F ((l ++ r).getD t 0)) (l.length + r.length) = sumN (fun t => F (l.getD t 0)) l.length + sumN (fun t => F (r.getD t 0)) r.length := by
  generalize hm : r.length = m
  have go : ∀ m, m ≤ r.length → sumN (fun t => F ((l ++ r).getD t 0)) (l.length + m) = sumN (fun t => F (l.getD t 0)) l.length + sumN (fun t => F (r.getD t 0)) m := fun m => by
    induction m with
    | zero =>
      intro _
      rw [Nat.add_zero, sumN_congr (g := fun t => F (l.getD t 0)) fun k hk => by
        rw [List.getD_eq_getElem?_getD, List.getD_eq_getElem?_getD, List.getElem?_append_left hk]]
      rw [show sumN (fun t => F (r.getD t 0)) 0 = 0 from rfl]
      grind
    | succ m ih =>
      intro h
      rw [← Nat.add_assoc, sumN, ih (by omega), sumN]
      have e : (l ++ r).getD (l.length + m) 0 = r.getD m 0 := by
        rw [List.getD_eq_getElem?_getD, List.getD_eq_getElem?_getD, List.getElem?_append_right (by omega)]
        congr 2
        omega
      rw [e]
      grind
  exact go m (by omega)
/-- a sum over the picked indexes -/
theorem sumN_filter (p : Nat → Bool) (F : Nat → Rat) : ∀ w, sumN (fun t => F (((List.range w).filter p).getD t 0)) ((List.range w).filter p).length = sumN (fun j => if p j then F j else 0) w
  | 0 => rfl
  | w + 1 => by
    have e : (List.range (w + 1)).filter p = (List.range w).filter p ++ if p w then [w] else [] := by
      rw [List.range_succ, List.filter_append]
      cases q : p w with
      | true => rw [List.filter_cons_of_pos q]; simp
      | false => rw [List.filter_cons_of_neg (by simp [q])]; simp
    rw [e, List.length_append, sumN_app, sumN_filter p F w, sumN]
    cases q : p w with
    | true => simp [sumN]; grind
    | false => simp [sumN]
def dotv (w : Nat) (a b : List Rat) : Rat := sumN (fun k => a.getD k 0 * b.getD k 0) w
theorem dot_smul (w : Nat) (q : Rat) (r x : List Rat) : dotv w (smul q r) x = q * dotv w r x := by
  unfold dotv
  rw [← sumN_smul]
  exact sumN_congr fun k _ => by rw [smul_getD]; grind
theorem dot_axpy {w : Nat} {f : Rat} {a b x : List Rat} (h : a.length = b.length) : dotv w (axpy f a b) x = dotv w a x - f * dotv w b x := by
  unfold dotv
  rw [← sumN_smul, ← sumN_sub]
  exact sumN_congr fun k _ => by rw [axpy_getD h]; grind
theorem lin_ker (W w : Nat) (x : List Rat) : Lin W fun r => dotv w r x = 0 :=
  ⟨fun q r _ h => by rw [dot_smul, h, Rat.mul_zero], fun f a b ha hb h1 h2 => by rw [dot_axpy (by rw [ha, hb]), h1, h2]; grind⟩
theorem lin_sol (W w : Nat) (x : List Rat) : Lin W fun r => dotv w r x = r.getD w 0 :=
  ⟨fun q r _ h => by rw [dot_smul, h, smul_getD], fun f a b ha hb h1 h2 => by rw [dot_axpy (by rw [ha, hb]), axpy_getD (by rw [ha, hb]), h1, h2]⟩
/-- v with q i at the place p i, for i below n -/
def setN (v : List Rat) (p : Nat → Nat) (q : Nat → Rat) : Nat → List Rat
  | 0 => v
  | n + 1 => (setN v p q n).set (p n) (q n)
theorem setN_len (v : List Rat) (p : Nat → Nat) (q : Nat → Rat) : ∀ n, (setN v p q n).length = v.length
  | 0 => rfl
  | n + 1 => by rw [setN, List.length_set, setN_len v p q n]
theorem getD_set {v : List Rat} {i j : Nat} {x : Rat} (h : i < v.length) : (v.set i x).getD j 0 = if i = j then x else v.getD j 0 := by
  rw [List.getD_eq_getElem?_getD, List.getElem?_set]
  by_cases e : i = j
  · rw [if_pos e, if_pos e, if_pos h]; rfl
  · rw [if_neg e, if_neg e, List.getD_eq_getElem?_getD]
theorem setN_off {v : List Rat} {p : Nat → Nat} {q : Nat → Rat} {j : Nat} : ∀ {n : Nat}, (∀ i, i < n → p i ≠ j) → (setN v p q n).getD j 0 = v.getD j 0
  | 0, _ => rfl
  | n + 1, h => by
    rw [setN, List.getD_eq_getElem?_getD, List.getElem?_set_ne (h n (by omega)), ← List.getD_eq_getElem?_getD]
    exact setN_off fun i hi => h i (by omega)
theorem setN_at {v : List Rat} {p : Nat → Nat} {q : Nat → Rat} {i : Nat} : ∀ {n : Nat}, (∀ a b, a < n → b < n → p a = p b → a = b) → i < n → p i < v.length → (setN v p q n).getD (p i) 0 = q i
  | 0, _, h, _ => by omega
  | n + 1, inj, h, hl => by
    rw [setN]
    by_cases e : i = n
    · subst e
      rw [getD_set (by rw [setN_len]; exact hl), if_pos rfl]
    · rw [List.getD_eq_getElem?_getD, List.getElem?_set_ne (fun z => e (inj n i (by omega) (by omega) z).symm), ← List.getD_eq_getElem?_getD]
      exact setN_at (fun a b ha hb => inj a b (by omega) (by omega)) (by omega) hl
def unitv (n i : Nat) : List Rat := (List.range n).map fun k => if k = i then 1 else 0
theorem unitv_len (n i : Nat) : (unitv n i).length = n := by unfold unitv; rw [List.length_map, List.length_range]
theorem unitv_getD {n i j : Nat} (h : j < n) : (unitv n i).getD j 0 = if j = i then 1 else 0 := by
  unfold unitv
  rw [List.getD_eq_getElem?_getD, List.getElem?_map, List.getElem?_range h]
  rfl
def zerov (n : Nat) : List Rat := (List.range n).map fun _ => 0
theorem zerov_len (n : Nat) : (zerov n).length = n := by unfold zerov; rw [List.length_map, List.length_range]
theorem zerov_getD (n j : Nat) : (zerov n).getD j 0 = 0 := by
  unfold zerov
  rw [List.getD_eq_getElem?_getD, List.getElem?_map]
  cases (List.range n)[j]? <;> rfl
section
variable {W w : Nat} {A : Tab} {ps : List Nat}
theorem Red.inj (R : Red W w A ps) : ∀ a b, a < ps.length → b < ps.length → ps.getD a 0 = ps.getD b 0 → a = b := fun a b ha hb e => by
  rcases Nat.lt_trichotomy a b with h | h | h
  · have := R.inc a b h hb; omega
  · exact h
  · have := R.inc b a h ha; omega
theorem Red.ltw (R : Red W w A ps) {i : Nat} (h : i < ps.length) : ps.getD i 0 < w := R.lt _ (getD_mem h)
theorem mem_ix {ps : List Nat} {j : Nat} (h : j ∈ ps) : ∃ i, i < ps.length ∧ ps.getD i 0 = j := by
  obtain ⟨i, hi, e⟩ := List.getElem_of_mem h
  exact ⟨i, hi, by rw [List.getD_eq_getElem?_getD, List.getElem?_eq_getElem hi]; exact e⟩
/-- the solution with zeros in the free columns -/
def xsol (w : Nat) (A : Tab) (ps : List Nat) : List Rat := setN (zerov w) (fun i => ps.getD i 0) (fun i => en A i w) ps.length
theorem xsol_len : (xsol w A ps).length = w := by unfold xsol; rw [setN_len, zerov_len]
theorem xsol_ok (R : Red W w A ps) (h : ∀ k, ps.length ≤ k → k < A.length → en A k w = 0) : ∀ r ∈ A, dotv w r (xsol w A ps) = r.getD w 0 := by
  rw [all_rows]
  intro k hk
  have z : ∀ j, j < w → (∀ i, i < ps.length → ps.getD i 0 ≠ j) → (xsol w A ps).getD j 0 = 0 := fun j _ hj => by
    unfold xsol
    rw [setN_off hj, zerov_getD]
  show sumN (fun j => en A k j * (xsol w A ps).getD j 0) w = en A k w
  by_cases hp : k < ps.length
  · rw [sumN_single (i := ps.getD k 0) (R.ltw hp) fun j hj n => ?_]
    · have : (xsol w A ps).getD (ps.getD k 0) 0 = en A k w := by
        unfold xsol
        exact setN_at (p := fun i => ps.getD i 0) R.inj hp (by rw [zerov_len]; exact R.ltw hp)
      rw [this, R.one k hp k hk, if_pos rfl]
      grind
    · by_cases hm : j ∈ ps
      · obtain ⟨i, hi, e⟩ := mem_ix hm
        rw [← e, R.one i hi k hk, if_neg fun z => n (by rw [← e, z])]
        grind
      · rw [z j hj fun i hi e => hm (by rw [← e]; exact getD_mem hi)]
        grind
  · rw [h k (by omega) hk]
    exact sumN_zero fun j hj => by rw [R.low k (by omega) hk j hj]; grind
/-- a row that is zero ahead of the right side: a system that has a solution has zero there -/
theorem sol_low (R : Red W w A ps) {x : List Rat} (h : ∀ r ∈ A, dotv w r x = r.getD w 0) {k : Nat} (h1 : ps.length ≤ k) (h2 : k < A.length) : en A k w = 0 := by
  have := h _ (rowAt_mem h2)
  show (rowAt A k).getD w 0 = 0
  rw [← this]
  exact sumN_zero fun j hj => by
    have e := R.low k h1 h2 j hj
    unfold en at e
    rw [e]
    grind
/-- the kernel's vector of a free column -/
def kvec (w : Nat) (A : Tab) (ps : List Nat) (f : Nat) : List Rat := setN (unitv w f) (fun i => ps.getD i 0) (fun i => -(en A i f)) ps.length
theorem kvec_len {f : Nat} : (kvec w A ps f).length = w := by unfold kvec; rw [setN_len, unitv_len]
theorem kvec_piv (R : Red W w A ps) {f i : Nat} (h : i < ps.length) : (kvec w A ps f).getD (ps.getD i 0) 0 = -(en A i f) := by
  unfold kvec
  exact setN_at (p := fun i => ps.getD i 0) R.inj h (by rw [unitv_len]; exact R.ltw h)
theorem kvec_free {f j : Nat} (hj : j < w) (h : j ∉ ps) : (kvec w A ps f).getD j 0 = if j = f then 1 else 0 := by
  unfold kvec
  rw [setN_off fun i hi e => h (by rw [← e]; exact getD_mem hi), unitv_getD hj]
theorem kvec_ok (R : Red W w A ps) {f : Nat} (hf : f < w) (nf : f ∉ ps) : ∀ r ∈ A, dotv w r (kvec w A ps f) = 0 := by
  rw [all_rows]
  intro k hk
  show sumN (fun j => en A k j * (kvec w A ps f).getD j 0) w = 0
  by_cases hp : k < ps.length
  · have e : sumN (fun j => en A k j * (kvec w A ps f).getD j 0) w = sumN (fun j => (if j = f then en A k f else 0) + if j = ps.getD k 0 then -(en A k f) else 0) w := by
      refine sumN_congr fun j hj => ?_
      by_cases hm : j ∈ ps
      · obtain ⟨i, hi, e⟩ := mem_ix hm
        have nj : j ≠ f := fun z => nf (z ▸ hm)
        rw [← e, kvec_piv R hi, R.one i hi k hk, e, if_neg nj]
        by_cases ek : k = i
        · subst ek
          rw [if_pos rfl, if_pos e.symm]
          grind
        · rw [if_neg ek, if_neg fun z => ek (R.inj k i hp hi (by rw [← z, e]))]
          grind
      · rw [kvec_free hj hm]
        have : j ≠ ps.getD k 0 := fun z => hm (z ▸ getD_mem hp)
        rw [if_neg this]
        by_cases e : j = f
        · subst e
          rw [if_pos rfl, if_pos rfl]
          grind
        · rw [if_neg e, if_neg e]
          grind
    rw [e, sumN_add, sumN_single (i := f) hf fun j _ n => if_neg n, sumN_single (i := ps.getD k 0) (R.ltw hp) fun j _ n => if_neg n, if_pos rfl, if_pos rfl]
    grind
  · exact sumN_zero fun j hj => by rw [R.low k (by omega) hk j hj]; grind
/-- every vector of the kernel is the combination by its items in the free columns -/
theorem kvec_comb (R : Red W w A ps) {g : List Rat} (h : ∀ r ∈ A, dotv w r g = 0) {j : Nat} (hj : j < w) :
    sumN (fun t => g.getD (((List.range w).filter fun f => decide (f ∉ ps)).getD t 0) 0 * (kvec w A ps (((List.range w).filter fun f => decide (f ∉ ps)).getD t 0)).getD j 0) ((List.range w).filter fun f => decide (f ∉ ps)).length = g.getD j 0 := by
  rw [sumN_filter (fun f => decide (f ∉ ps)) fun f => g.getD f 0 * (kvec w A ps f).getD j 0]
  by_cases hm : j ∈ ps
  · obtain ⟨i, hi, e⟩ := mem_ix hm
    have hiA : i < A.length := Nat.lt_of_lt_of_le hi R.len
    have h0 : sumN (fun f => en A i f * g.getD f 0) w = 0 := h _ (rowAt_mem hiA)
    have e1 : sumN (fun f => if decide (f ∉ ps) = true then g.getD f 0 * (kvec w A ps f).getD j 0 else 0) w = sumN (fun f => (if f = j then g.getD j 0 else 0) - en A i f * g.getD f 0) w := by
      refine sumN_congr fun f hf => ?_
      by_cases hfm : f ∈ ps
      · obtain ⟨i', hi', e'⟩ := mem_ix hfm
        rw [if_neg (by simp [hfm]), ← e', R.one i' hi' i hiA, e']
        by_cases ei : i = i'
        · subst ei
          rw [if_pos (by rw [← e', e]), if_pos rfl, ← e, e']
          grind
        · rw [if_neg ei, if_neg fun z => ei (R.inj i i' hi hi' (by rw [e, e', z]))]
          grind
      · have nj : f ≠ j := fun z => hfm (z ▸ hm)
        rw [if_pos (by simp [hfm]), if_neg nj, ← e, kvec_piv R hi]
        grind
    rw [e1, sumN_sub, h0, sumN_single (i := j) hj fun f _ n => if_neg n, if_pos rfl]
    grind
  · rw [sumN_single (i := j) hj fun f hf n => ?_]
    · rw [if_pos (by simp [hm]), kvec_free hj hm, if_pos rfl]
      grind
    · by_cases hfm : f ∈ ps
      · rw [if_neg (by simp [hfm])]
      · rw [if_pos (by simp [hfm]), kvec_free hj hm, if_neg fun z => n z.symm]
        grind
end
set_option Elab.async false
set_option linter.all false
set_option maxRecDepth 100000
set_option maxHeartbeats 1000000
/-! tables alike on the left; certificates -/
open PySem L2
def Alike (w : Nat) (A B : Tab) : Prop := A.length = B.length ∧ ∀ k j, k < A.length → j < w → en A k j = en B k j
theorem find_congr {p q : Nat → Bool} : ∀ {l : List Nat}, (∀ x ∈ l, p x = q x) → l.find? p = l.find? q
  | [], _ => rfl
  | a :: l, h => by
    rw [List.find?_cons, List.find?_cons, h a List.mem_cons_self, find_congr fun x hx => h x (List.mem_cons_of_mem _ hx)]
theorem firstNZ_alike {w c d : Nat} {A B : Tab} (h : Alike w A B) (hc : c < w) : firstNZ c d A = firstNZ c d B := by
  unfold firstNZ
  rw [h.1]
  exact find_congr fun x hx => by
    rw [List.mem_range'_1] at hx
    rw [h.2 x c (by have := h.1; omega) hc]
theorem gstep_alike {w wa wb c : Nat} {A B : Tab} {ps : List Nat} (wA : Wid wa A) (wB : Wid wb B) (h : Alike w A B) (hc : c < w) : (gstep (A, ps) c).2 = (gstep (B, ps) c).2 ∧ Alike w (gstep (A, ps) c).1 (gstep (B, ps) c).1 := by
  unfold gstep
  dsimp only
  rw [firstNZ_alike h hc]
  cases e : firstNZ c ps.length B with
  | none => exact ⟨rfl, h⟩
  | some i =>
    dsimp only
    obtain ⟨i1, i2, _⟩ := firstNZ_some e
    have hl := h.1
    refine ⟨rfl, by rw [elimCol_length, elimCol_length, hl], fun k j hk hj => ?_⟩
    rw [elimCol_length] at hk
    have ed : ∀ j, j < w → en (elimCol c ps.length i A) ps.length j = en (elimCol c ps.length i B) ps.length j := fun j hj => by
      rw [en_d wA (by omega) (by omega), en_d wB (by omega) (by omega), h.2 i c (by omega) hc, h.2 i j (by omega) hj]
    by_cases e : k = ps.length
    · subst e
      exact ed j hj
    · rw [en_k wA (by omega) (by omega) hk e, en_k wB (by omega) (by omega) (by omega) e, ed j hj]
      have hs : (if k = i then ps.length else k) < A.length := by split <;> omega
      rw [h.2 _ j hs hj, h.2 _ c hs hc]
theorem gauss_alike {w wa wb : Nat} {A B : Tab} (wA : Wid wa A) (wB : Wid wb B) (h : Alike w A B) : ∀ m, m ≤ w → (gauss m A).2 = (gauss m B).2 ∧ Alike w (gauss m A).1 (gauss m B).1
  | 0, _ => ⟨rfl, h⟩
  | m + 1, hm => by
    have ih := gauss_alike wA wB h m (by omega)
    have e : ∀ T, gauss (m + 1) T = gstep (gauss m T) m := fun T => by
      unfold gauss
      rw [List.range_succ, List.foldl_append]
      rfl
    have rA := (gauss_red wA m).wid
    have rB := (gauss_red wB m).wid
    rw [e, e]
    generalize gauss m A = s at ih rA ⊢
    generalize gauss m B = t at ih rB ⊢
    obtain ⟨s1, s2⟩ := s
    obtain ⟨t1, t2⟩ := t
    obtain ⟨e1, e2⟩ := ih
    dsimp only at e1
    subst e1
    exact gstep_alike rA rB e2 (by omega)
/-- the row tells itself as a combination of the given rows: from the place p on stand the weights -/
def Wit (m p n : Nat) (c : Nat → Nat → Rat) (r : List Rat) : Prop := ∀ j, j < m → r.getD j 0 = sumN (fun k => r.getD (p + k) 0 * c k j) n
theorem lin_wit (W m p n : Nat) (c : Nat → Nat → Rat) : Lin W (Wit m p n c) :=
  ⟨fun q r _ h j hj => by
    rw [smul_getD, h j hj, ← sumN_smul]
    exact sumN_congr fun k _ => by rw [smul_getD]; grind, fun f x y hx hy h1 h2 j hj => by
    rw [axpy_getD (by rw [hx, hy]), h1 j hj, h2 j hj, ← sumN_smul, ← sumN_sub]
    exact sumN_congr fun k _ => by rw [axpy_getD (by rw [hx, hy])]; grind⟩
/-- the combination of the rows of V with the weights y -/
def combv (w : Nat) (V : Tab) (y : List Rat) : List Rat := (List.range w).map fun j => sumN (fun k => y.getD k 0 * en V k j) V.length
theorem combv_len {w : Nat} {V : Tab} {y : List Rat} : (combv w V y).length = w := by unfold combv; rw [List.length_map, List.length_range]
theorem combv_getD {w : Nat} {V : Tab} {y : List Rat} {j : Nat} (h : j < w) : (combv w V y).getD j 0 = sumN (fun k => y.getD k 0 * en V k j) V.length := by
  unfold combv
  rw [List.getD_eq_getElem?_getD, List.getElem?_map, List.getElem?_range h]
  rfl
theorem zero_iff {w : Nat} {r : List Rat} (h : r.length = w) : r = zerov w ↔ ∀ j, j < w → r.getD j 0 = 0 := by
  constructor
  · intro e j hj
    rw [e, zerov_getD]
  · intro e
    refine row_ext (by rw [h, zerov_len]) fun j => ?_
    rw [zerov_getD]
    by_cases hj : j < w
    · exact e j hj
    · rw [List.getD_eq_getElem?_getD, List.getElem?_eq_none (by omega)]
      rfl
/-- a combination that is zero, and one that is 1 on the right: no solution -/
theorem no_both {w : Nat} {V : Tab} {y b x : List Rat} (hy : combv w V y = zerov w) (hx : ∀ k, k < V.length → dotv w (rowAt V k) x = b.getD k 0) : dotv V.length y b = 0 := by
  unfold dotv
  rw [sumN_congr (g := fun k => sumN (fun j => y.getD k 0 * (en V k j * x.getD j 0)) w) fun k hk => by rw [← hx k hk]; unfold dotv; rw [← sumN_smul]; rfl, sumN_swap]
  refine sumN_zero fun j hj => ?_
  have e := (zero_iff combv_len).mp hy j hj
  rw [combv_getD hj] at e
  rw [sumN_congr (g := fun k => x.getD j 0 * (y.getD k 0 * en V k j)) fun k _ => by grind, sumN_smul, e]
  grind
set_option Elab.async false
set_option linter.all false
set_option maxRecDepth 100000
set_option maxHeartbeats 1000000
/-! duals and dependences -/
open PySem L2
theorem pigeon : ∀ (n : Nat) (ps : List Nat), ps.length < n → ∃ f, f < n ∧ f ∉ ps
  | 0, _, h => absurd h (by omega)
  | n + 1, ps, h => by
    by_cases hn : n ∈ ps
    · have hl := List.length_erase_of_mem hn
      have hp := List.length_pos_of_mem hn
      obtain ⟨f, h1, h2⟩ := pigeon n (ps.erase n) (by omega)
      exact ⟨f, by omega, fun z => h2 ((List.mem_erase_of_ne (by omega)).mpr z)⟩
    · exact ⟨n, by omega, hn⟩
theorem ker_ex {h : Nat} {B : Tab} (hw : Wid h B) (hl : B.length < h) : ∃ x : List Rat, x.length = h ∧ (∃ f, f < h ∧ x.getD f 0 ≠ 0) ∧ ∀ r ∈ B, dotv h r x = 0 := by
  have R := gauss_red hw h
  have gl := gauss_length h B
  have rl := R.len
  obtain ⟨f, hf, nf⟩ := pigeon h (gauss h B).2 (by omega)
  refine ⟨kvec h (gauss h B).1 (gauss h B).2 f, kvec_len, ⟨f, hf, ?_⟩, (gauss_lin (lin_ker h h _) hw h).mp (kvec_ok R hf nf)⟩
  rw [kvec_free hf nf, if_pos rfl]
  decide
theorem dot_set {w i : Nat} {r v : List Rat} {x : Rat} (hi : i < w) (hv : i < v.length) : dotv w r (v.set i x) = dotv w r v + r.getD i 0 * (x - v.getD i 0) := by
  unfold dotv
  rw [sumN_congr (g := fun k => r.getD k 0 * v.getD k 0 + (if k = i then r.getD i 0 * (x - v.getD i 0) else 0)) fun k hk => ?_, sumN_add, sumN_single (i := i) (f := fun k => if k = i then r.getD i 0 * (x - v.getD i 0) else 0) hi fun k _ ne => if_neg ne, if_pos rfl]
  rw [getD_set hv]
  by_cases e : i = k
  · subst e
    rw [if_pos rfl, if_pos rfl]
    grind
  · rw [if_neg e, if_neg fun z => e z.symm]
    grind
theorem dot_setN {w : Nat} {r : List Rat} {p : Nat → Nat} {q : Nat → Rat} : ∀ n, (∀ a b, a < n → b < n → p a = p b → a = b) → (∀ i, i < n → p i < w) → dotv w r (setN (zerov w) p q n) = sumN (fun i => r.getD (p i) 0 * q i) n
  | 0, _, _ => sumN_zero fun k _ => by rw [setN, zerov_getD]; grind
  | n + 1, inj, lt => by
    have ih := dot_setN (r := r) (q := q) n (fun a b ha hb => inj a b (by omega) (by omega)) fun i hi => lt i (by omega)
    rw [setN, dot_set (lt n (by omega)) (by rw [setN_len, zerov_len]; exact lt n (by omega)), ih, setN_off (fun i hi z => by have := inj i n (by omega) (by omega) z; omega), zerov_getD, sumN]
    grind
theorem lin_col (W h c : Nat) (x : List Rat) : Lin W fun r => dotv h r x = r.getD c 0 :=
  ⟨fun q r _ h => by rw [dot_smul, h, smul_getD], fun f a b ha hb h1 h2 => by rw [dot_axpy (by rw [ha, hb]), axpy_getD (by rw [ha, hb]), h1, h2]⟩
theorem lin_shift (W w h : Nat) (x : List Rat) : Lin W fun r => sumN (fun i => r.getD (w + i) 0 * x.getD i 0) h = 0 :=
  ⟨fun q r _ e => by rw [sumN_congr (g := fun i => q * (r.getD (w + i) 0 * x.getD i 0)) fun i _ => by rw [smul_getD]; grind, sumN_smul, e]; grind,
   fun f a b ha hb h1 h2 => by rw [sumN_congr (g := fun i => a.getD (w + i) 0 * x.getD i 0 - f * (b.getD (w + i) 0 * x.getD i 0)) fun i _ => by rw [axpy_getD (by rw [ha, hb])]; grind, sumN_sub, sumN_smul, h1, h2]; grind⟩
theorem inc_full {ps : List Nat} {n : Nat} (inc : ∀ a b, a < b → b < ps.length → ps.getD a 0 < ps.getD b 0) (lt : ∀ p ∈ ps, p < n) (hl : ps.length = n) {i : Nat} (hi : i < n) : ps.getD i 0 = i := by
  have up : ∀ i, i < n → i ≤ ps.getD i 0 := fun i => by
    induction i with
    | zero => intro _; exact Nat.zero_le _
    | succ i ih =>
      intro h
      have := ih (by omega)
      have := inc i (i + 1) (by omega) (by omega)
      omega
  have dn : ∀ d i, i + d + 1 = n → ps.getD i 0 + d + 1 ≤ n := fun d => by
    induction d with
    | zero =>
      intro i h
      have := lt _ (getD_mem (show i < ps.length by omega))
      omega
    | succ d ih =>
      intro i h
      have a := ih (i + 1) (by omega)
      have b := inc i (i + 1) (by omega) (by omega)
      omega
  have a := up i hi
  have b := dn (n - 1 - i) i (by omega)
  omega
theorem rangeD {n i : Nat} (f : Nat → Rat) (h : i < n) : ((List.range n).map f).getD i 0 = f i := by
  rw [List.getD_eq_getElem?_getD, List.getElem?_map, List.getElem?_range h]
  rfl
/-- the pivots' columns with the unit matrix -/
def sqT (A : Tab) (ps : List Nat) : Tab := (List.range A.length).map fun k => (ps.map fun p => en A k p) ++ unitv A.length k
theorem sqT_len {A : Tab} {ps : List Nat} : (sqT A ps).length = A.length := by unfold sqT; rw [List.length_map, List.length_range]
theorem sqT_row {A : Tab} {ps : List Nat} {k : Nat} (hk : k < A.length) : rowAt (sqT A ps) k = (ps.map fun p => en A k p) ++ unitv A.length k := by
  unfold rowAt sqT
  rw [List.getD_eq_getElem?_getD, List.getElem?_map, List.getElem?_range hk]
  rfl
theorem sqT_wid {A : Tab} {ps : List Nat} : Wid (ps.length + A.length) (sqT A ps) := by
  unfold Wid
  rw [all_rows]
  intro k hk
  rw [sqT_len] at hk
  rw [sqT_row hk, List.length_append, List.length_map, unitv_len]
theorem sqT_left {A : Tab} {ps : List Nat} {k i : Nat} (hk : k < A.length) (hi : i < ps.length) : (rowAt (sqT A ps) k).getD i 0 = en A k (ps.getD i 0) := by
  rw [sqT_row hk, List.getD_eq_getElem?_getD, List.getElem?_append_left (by rw [List.length_map]; exact hi), List.getElem?_map, List.getElem?_eq_getElem hi, List.getD_eq_getElem?_getD, List.getElem?_eq_getElem hi]
  rfl
theorem sqT_right {A : Tab} {ps : List Nat} {k i : Nat} (hk : k < A.length) (hi : i < A.length) : (rowAt (sqT A ps) k).getD (ps.length + i) 0 = if i = k then 1 else 0 := by
  rw [sqT_row hk, List.getD_eq_getElem?_getD, List.getElem?_append_right (by rw [List.length_map]; omega), List.length_map, Nat.add_sub_cancel_left, ← List.getD_eq_getElem?_getD, unitv_getD hi]
/-- the dual of the row at -/
def dualv (w : Nat) (A : Tab) (ps : List Nat) (at_ : Nat) : List Rat := setN (zerov w) (fun k => ps.getD k 0) (fun k => en (gauss A.length (sqT A ps)).1 k (A.length + at_)) ps.length
theorem duals_ok {w : Nat} {A B : Tab} {ps : List Nat} (R : Red w w B ps) (lin : ∀ x, (∀ r ∈ B, dotv w r x = 0) ↔ ∀ r ∈ A, dotv w r x = 0) (hl : B.length = A.length) (full : ps.length = A.length) {at_ j : Nat} (ha : at_ < A.length) (hj : j < A.length) :
    dotv w (rowAt A j) (dualv w A ps at_) = if at_ = j then 1 else 0 := by
  have wT := sqT_wid (A := A) (ps := ps)
  have lift : ∀ (r : List Rat) (q : Nat → Rat), dotv w r (setN (zerov w) (fun k => ps.getD k 0) q ps.length) = sumN (fun i => r.getD (ps.getD i 0) 0 * q i) ps.length := fun r q => dot_setN _ R.inj fun i hi => R.ltw hi
  have row : ∀ j, j < A.length → ∀ x : List Rat, dotv A.length (rowAt (sqT A ps) j) x = sumN (fun i => en A j (ps.getD i 0) * x.getD i 0) ps.length := fun j hj x => by
    unfold dotv
    rw [full]
    exact sumN_congr fun i hi => by rw [sqT_left hj (by omega)]
  have R2 := gauss_red wT A.length
  have gl := gauss_length A.length (sqT A ps)
  rw [sqT_len] at gl
  have linK := fun x => gauss_lin (lin_ker (ps.length + A.length) A.length x) wT A.length
  have linC := fun x => gauss_lin (lin_col (ps.length + A.length) A.length (A.length + at_) x) wT A.length
  unfold dualv
  rw [lift]
  generalize gauss A.length (sqT A ps) = G at R2 gl linK linC
  obtain ⟨C, qs⟩ := G
  dsimp only at R2 gl linK linC ⊢
  have fq : qs.length = A.length := by
    have := R2.len
    refine Decidable.byContradiction fun z => ?_
    obtain ⟨f, hf, nf⟩ := pigeon A.length qs (by omega)
    have k0 := (linK _).mp (kvec_ok R2 hf nf)
    have one : (kvec A.length C qs f).getD f 0 = 1 := by rw [kvec_free hf nf, if_pos rfl]
    generalize kvec A.length C qs f = x at k0 one
    have a0 : ∀ r ∈ A, dotv w r (setN (zerov w) (fun k => ps.getD k 0) (fun i => x.getD i 0) ps.length) = 0 := by
      rw [all_rows]
      intro j hj
      have e := k0 _ (rowAt_mem (show j < (sqT A ps).length by rw [sqT_len]; exact hj))
      rw [row j hj] at e
      rw [lift]
      exact e
    have b0 := (lin _).mpr a0 _ (rowAt_mem (show f < B.length by omega))
    rw [lift, sumN_single (i := f) (by omega) fun k hk ne => by
      have := R.one k hk f (by omega)
      unfold en at this
      rw [this, if_neg fun z => ne z.symm]
      grind] at b0
    have := R.one f (by omega) f (by omega)
    unfold en at this
    rw [this, if_pos rfl, one] at b0
    exact absurd b0 (by grind)
  have idn : ∀ k j, k < A.length → j < A.length → en C k j = if k = j then 1 else 0 := fun k j hk hj => by
    have := R2.one j (by omega) k (by omega)
    rw [inc_full R2.inc R2.lt fq hj] at this
    exact this
  have col := (linC ((List.range A.length).map fun k => en C k (A.length + at_))).mp (by
    rw [all_rows]
    intro k hk
    unfold dotv
    rw [sumN_single (i := k) (by omega) fun i hi ne => by
      have := idn k i (by omega) hi
      unfold en at this
      rw [this, if_neg fun z => ne z.symm]
      grind]
    have := idn k k (by omega) (by omega)
    unfold en at this
    rw [this, if_pos rfl, List.getD_eq_getElem?_getD, List.getElem?_map, List.getElem?_range (by omega)]
    show 1 * en C k (A.length + at_) = en C k (A.length + at_)
    grind) _ (rowAt_mem (show j < (sqT A ps).length by rw [sqT_len]; exact hj))
  rw [row j hj, show A.length + at_ = ps.length + at_ by rw [full], sqT_right hj ha] at col
  rw [← col]
  exact sumN_congr fun i hi => by
    rw [rangeD _ (by omega), ← full]
    rfl
/-- the rows with the unit matrix -/
def idT (A : Tab) : Tab := (List.range A.length).map fun k => rowAt A k ++ unitv A.length k
theorem idT_len {A : Tab} : (idT A).length = A.length := by unfold idT; rw [List.length_map, List.length_range]
theorem idT_row {A : Tab} {k : Nat} (hk : k < A.length) : rowAt (idT A) k = rowAt A k ++ unitv A.length k := by
  unfold rowAt idT
  rw [List.getD_eq_getElem?_getD, List.getElem?_map, List.getElem?_range hk]
  rfl
theorem idT_wid {w : Nat} {A : Tab} (hw : Wid w A) : Wid (w + A.length) (idT A) := by
  unfold Wid
  rw [all_rows]
  intro k hk
  rw [idT_len] at hk
  rw [idT_row hk, List.length_append, rowAt_len hw hk, unitv_len]
theorem idT_left {w : Nat} {A : Tab} (hw : Wid w A) {k j : Nat} (hk : k < A.length) (hj : j < w) : (rowAt (idT A) k).getD j 0 = en A k j := by
  unfold en
  rw [idT_row hk, List.getD_eq_getElem?_getD, List.getElem?_append_left (by rw [rowAt_len hw hk]; exact hj), List.getD_eq_getElem?_getD]
theorem idT_right {w : Nat} {A : Tab} (hw : Wid w A) {k i : Nat} (hk : k < A.length) (hi : i < A.length) : (rowAt (idT A) k).getD (w + i) 0 = if i = k then 1 else 0 := by
  rw [idT_row hk, List.getD_eq_getElem?_getD, List.getElem?_append_right (by rw [rowAt_len hw hk]; omega), rowAt_len hw hk, Nat.add_sub_cancel_left, ← List.getD_eq_getElem?_getD, unitv_getD hi]
def depv (w : Nat) (A : Tab) : List Rat := (rowAt (gauss w (idT A)).1 (gauss w (idT A)).2.length).drop w
theorem dep_ok {w : Nat} {A : Tab} (hw : Wid w A) (hl : (gauss w (idT A)).2.length < A.length) : (depv w A).length = A.length ∧ combv w A (depv w A) = zerov w ∧ depv w A ≠ zerov A.length := by
  have wT := idT_wid hw
  have R := gauss_red wT w
  have gl := gauss_length w (idT A)
  rw [idT_len] at gl
  have wit := (gauss_lin (lin_wit (w + A.length) w w A.length fun k j => en A k j) wT w).mpr (by
    rw [all_rows]
    intro k hk j hj
    rw [idT_len] at hk
    rw [sumN_single (i := k) hk fun i hi ne => by rw [idT_right hw hk hi, if_neg ne]; grind, idT_right hw hk hk, if_pos rfl, idT_left hw hk hj]
    grind)
  have linS := fun x => gauss_lin (lin_shift (w + A.length) w A.length x) wT w
  unfold depv
  generalize gauss w (idT A) = G at R gl wit linS hl
  obtain ⟨B, ps⟩ := G
  dsimp only at R gl wit linS hl ⊢
  have lr : (rowAt B ps.length).length = w + A.length := rowAt_len R.wid (by omega)
  have gd : ∀ (r : List Rat) (i : Nat), (r.drop w).getD i 0 = r.getD (w + i) 0 := fun r i => by rw [List.getD_eq_getElem?_getD, List.getElem?_drop, List.getD_eq_getElem?_getD]
  have ly : ((rowAt B ps.length).drop w).length = A.length := by rw [List.length_drop, lr]; omega
  refine ⟨ly, ?_, fun z => ?_⟩
  · rw [zero_iff combv_len]
    intro j hj
    have e := wit _ (rowAt_mem (show ps.length < B.length by omega)) j hj
    rw [show (rowAt B ps.length).getD j 0 = 0 from R.low _ (Nat.le_refl _) (by omega) j hj] at e
    rw [combv_getD hj]
    exact (sumN_congr fun k _ => by rw [gd]).trans e.symm
  · have wE : Wid A.length ((B.eraseIdx ps.length).map fun r => r.drop w) := fun r hr => by
      obtain ⟨s, hs, rfl⟩ := List.mem_map.mp hr
      rw [List.length_drop, R.wid s (List.mem_of_mem_eraseIdx hs)]
      omega
    obtain ⟨x, lx, ⟨f, hf, nf⟩, kx⟩ := ker_ex wE (by rw [List.length_map, List.length_eraseIdx_of_lt (by omega)]; omega)
    have all := (linS x).mp (by
      rw [all_rows]
      intro k hk
      by_cases e : k = ps.length
      · subst e
        exact sumN_zero fun i hi => by rw [← gd, z, zerov_getD]; grind
      · have := kx ((rowAt B k).drop w) (List.mem_map.mpr ⟨_, List.mem_eraseIdx_iff_getElem?.mpr ⟨k, e, rowAt_some hk⟩, rfl⟩)
        unfold dotv at this
        exact (sumN_congr fun i _ => by rw [gd]).trans this) _ (rowAt_mem (show f < (idT A).length by rw [idT_len]; exact hf))
    rw [sumN_single (i := f) hf fun i hi ne => by rw [idT_right hw hf hi, if_neg ne]; grind, idT_right hw hf hf, if_pos rfl] at all
    exact nf (by grind)
def Fits (w : Nat) (A U : Tab) : Prop := ∀ i, i < A.length → ∀ k, k < A.length → dotv w (rowAt U i) (rowAt A k) = if k = i then 1 else 0
theorem no_fit {w : Nat} {A U : Tab} {y : List Rat} (ly : y.length = A.length) (hy : combv w A y = zerov w) (nz : y ≠ zerov A.length) : ¬ Fits w A U := fun F => nz (by
  rw [zero_iff ly]
  intro i hi
  have e : sumN (fun k => y.getD k 0 * dotv w (rowAt U i) (rowAt A k)) A.length = y.getD i 0 := by
    rw [sumN_single (i := i) hi fun k hk ne => by rw [F i hi k hk, if_neg ne]; grind, F i hi i hi, if_pos rfl]
    grind
  rw [← e]
  unfold dotv
  rw [sumN_congr (g := fun k => sumN (fun j => y.getD k 0 * ((rowAt U i).getD j 0 * (rowAt A k).getD j 0)) w) fun k _ => (sumN_smul _ _ _).symm, sumN_swap]
  refine sumN_zero fun j hj => ?_
  have c := (zero_iff combv_len).mp hy j hj
  rw [combv_getD hj] at c
  rw [sumN_congr (g := fun k => (rowAt U i).getD j 0 * (y.getD k 0 * en A k j)) fun k _ => by unfold en; grind, sumN_smul, c]
  grind)
set_option Elab.async false
set_option linter.all false
set_option maxRecDepth 100000
set_option maxHeartbeats 1000000
/-! reduced rows -/
open PySem L2
section
variable {w : Nat} {A B : Tab} {ps : List Nat}
def restv (w : Nat) (v : List Rat) (C : Tab) (ps : List Nat) (m : Nat) : List Rat := (List.range w).map fun j => v.getD j 0 - sumN (fun k => v.getD (ps.getD k 0) 0 * en C k j) m
theorem restv_len {v : List Rat} {m : Nat} : (restv w v B ps m).length = w := by unfold restv; rw [List.length_map, List.length_range]
theorem restv_getD {v : List Rat} {m j : Nat} (h : j < w) : (restv w v B ps m).getD j 0 = v.getD j 0 - sumN (fun k => v.getD (ps.getD k 0) 0 * en B k j) m := rangeD _ h
theorem restv_piv (R : Red w w B ps) {v : List Rat} {m : Nat} (hm : m < ps.length) : (restv w v B ps m).getD (ps.getD m 0) 0 = v.getD (ps.getD m 0) 0 := by
  have := R.len
  rw [restv_getD (R.ltw hm), sumN_zero fun k hk => ?_]
  · grind
  · rw [R.one m hm k (by omega), if_neg (by omega)]
    grind
theorem lin_rest (W w : Nat) (B : Tab) (ps : List Nat) (r : Nat) : Lin W fun v => ∀ j, j < w → v.getD j 0 = sumN (fun k => v.getD (ps.getD k 0) 0 * en B k j) r :=
  ⟨fun q v _ h j hj => by
    rw [smul_getD, h j hj, ← sumN_smul]
    exact sumN_congr fun k _ => by rw [smul_getD]; grind, fun f x y hx hy h1 h2 j hj => by
    rw [axpy_getD (by rw [hx, hy]), h1 j hj, h2 j hj, ← sumN_smul, ← sumN_sub]
    exact sumN_congr fun k _ => by rw [axpy_getD (by rw [hx, hy])]; grind⟩
theorem rest_rows (R : Red w w B ps) : ∀ r ∈ B, ∀ j, j < w → r.getD j 0 = sumN (fun k => r.getD (ps.getD k 0) 0 * en B k j) ps.length := by
  rw [all_rows]
  intro i hi j hj
  by_cases h : i < ps.length
  · rw [sumN_single (i := i) h fun k hk ne => by
      have := R.one k hk i hi
      unfold en at this
      rw [this, if_neg fun z => ne z.symm]
      grind]
    have := R.one i h i hi
    unfold en at this
    rw [this, if_pos rfl]
    unfold en
    grind
  · rw [show (rowAt B i).getD j 0 = 0 from R.low i (by omega) hi j hj]
    symm
    refine sumN_zero fun k hk => ?_
    rw [show (rowAt B i).getD (ps.getD k 0) 0 = 0 from R.low i (by omega) hi _ (R.ltw hk)]
    grind
theorem rest_zero (R : Red w w B ps) {v : List Rat} (h : ∀ j, j < w → v.getD j 0 = sumN (fun k => v.getD (ps.getD k 0) 0 * en B k j) ps.length) : restv w v B ps ps.length = zerov w := by
  rw [zero_iff restv_len]
  intro j hj
  rw [restv_getD hj, ← h j hj]
  grind
theorem row_comb (hw : Wid w A) {i : Nat} (hi : i < A.length) : ∃ y : List Rat, ∀ j, j < w → sumN (fun k => en A k j * y.getD k 0) A.length = en (gauss w A).1 i j := by
  have wT := idT_wid hw
  have gl := gauss_length w (idT A)
  rw [idT_len] at gl
  have gl0 := gauss_length w A
  have al := (gauss_alike hw wT (w := w) ⟨idT_len.symm, fun k j hk hj => (idT_left hw hk hj).symm⟩ w (Nat.le_refl _)).2
  have wit := (gauss_lin (lin_wit (w + A.length) w w A.length fun k j => en A k j) wT w).mpr (by
    rw [all_rows]
    intro k hk j hj
    rw [idT_len] at hk
    rw [sumN_single (i := k) hk fun i hi ne => by rw [idT_right hw hk hi, if_neg ne]; grind, idT_right hw hk hk, if_pos rfl, idT_left hw hk hj]
    grind) _ (rowAt_mem (show i < (gauss w (idT A)).1.length by omega))
  refine ⟨(rowAt (gauss w (idT A)).1 i).drop w, fun j hj => ?_⟩
  rw [al.2 i j (by omega) hj]
  refine Eq.trans (sumN_congr fun k _ => ?_) (wit j hj).symm
  rw [show ((rowAt (gauss w (idT A)).1 i).drop w).getD k 0 = (rowAt (gauss w (idT A)).1 i).getD (w + k) 0 by rw [List.getD_eq_getElem?_getD, List.getElem?_drop, List.getD_eq_getElem?_getD]]
  grind
def trT (w : Nat) (A : Tab) : Tab := (List.range w).map fun j => (List.range A.length).map fun k => en A k j
theorem trT_len : (trT w A).length = w := by unfold trT; rw [List.length_map, List.length_range]
theorem trT_row {j : Nat} (h : j < w) : rowAt (trT w A) j = (List.range A.length).map fun k => en A k j := by
  unfold rowAt trT
  rw [List.getD_eq_getElem?_getD, List.getElem?_map, List.getElem?_range h]
  rfl
theorem trT_wid : Wid A.length (trT w A) := by
  unfold Wid
  rw [all_rows]
  intro j hj
  rw [trT_len] at hj
  rw [trT_row hj, List.length_map, List.length_range]
theorem trT_en {j k : Nat} (hj : j < w) (hk : k < A.length) : en (trT w A) j k = en A k j := by
  unfold en
  rw [trT_row hj, rangeD _ hk]
  rfl
theorem trT_trT (hw : Wid w A) : trT A.length (trT w A) = A := by
  refine List.ext_getElem (by rw [trT_len]) fun k h1 h2 => ?_
  have e1 : (trT A.length (trT w A))[k] = rowAt (trT A.length (trT w A)) k := by
    unfold rowAt
    rw [List.getD_eq_getElem?_getD, List.getElem?_eq_getElem h1]
    rfl
  have e2 : A[k] = rowAt A k := by
    unfold rowAt
    rw [List.getD_eq_getElem?_getD, List.getElem?_eq_getElem h2]
    rfl
  rw [e1, e2, trT_row h2, trT_len]
  refine row_ext (by rw [List.length_map, List.length_range, rowAt_len hw h2]) fun j => ?_
  by_cases hj : j < w
  · rw [rangeD _ hj, trT_en hj h2]
    rfl
  · rw [List.getD_eq_getElem?_getD, List.getD_eq_getElem?_getD, List.getElem?_eq_none (by rw [List.length_map, List.length_range]; omega), List.getElem?_eq_none (by rw [rowAt_len hw h2]; omega)]
theorem trT_siz {n : Nat} (hn : 1 ≤ n) (h : Siz n A) : Siz n (trT w A) := fun r hr x hx => by
  unfold trT at hr
  obtain ⟨j, _, rfl⟩ := List.mem_map.mp hr
  obtain ⟨k, _, rfl⟩ := List.mem_map.mp hx
  exact getD_siz hn (row_siz h k) j
theorem trT_dot {j : Nat} {y : List Rat} (hj : j < w) : dotv A.length (rowAt (trT w A) j) y = sumN (fun k => en A k j * y.getD k 0) A.length := by
  unfold dotv
  exact sumN_congr fun k hk => by rw [trT_row hj, rangeD _ hk]
end
set_option Elab.async false
set_option linter.all false
set_option maxRecDepth 100000
set_option maxHeartbeats 1000000
/-! ### polynomials as lists of rationals, by evaluation (no program in sight) -/
def evl : List Rat → Rat → Rat
  | [], _ => 0
  | a :: p, x => a + x * evl p x
@[simp] theorem ev_nil (x : Rat) : evl [] x = 0 := rfl
theorem ev_cons (a : Rat) (p : List Rat) (x : Rat) : evl (a :: p) x = a + x * evl p x := rfl
theorem ev_append (p q : List Rat) (x : Rat) : evl (p ++ q) x = evl p x + x ^ p.length * evl q x := by
  induction p with
  | nil => show evl q x = 0 + x ^ 0 * evl q x; rw [Rat.pow_zero]; grind
  | cons a p ih =>
    rw [List.cons_append, ev_cons, ev_cons, ih, List.length_cons, Rat.pow_succ]
    grind
theorem ev_set (p : List Rat) (c x : Rat) : ∀ i, i < p.length → evl (p.set i c) x = evl p x + (c - p.getD i 0) * x ^ i := by
  induction p with
  | nil => intro i h; simp at h
  | cons a p ih =>
    intro i h
    cases i with
    | zero =>
      rw [List.set_cons_zero, ev_cons, ev_cons, Rat.pow_zero, List.getD_cons_zero]
      grind
    | succ i =>
      rw [List.set_cons_succ, ev_cons, ev_cons, ih i (by rw [List.length_cons] at h; omega), Rat.pow_succ, List.getD_cons_succ]
      grind
theorem ev_zeros (n : Nat) (x : Rat) : evl (List.replicate n 0) x = 0 := by
  induction n with
  | zero => rfl
  | succ n ih => rw [List.replicate_succ, ev_cons, ih]; grind
def Zs (p : List Rat) : Prop := ∀ a ∈ p, a = 0
theorem ev_Zs {p : List Rat} (h : Zs p) (x : Rat) : evl p x = 0 := by
  induction p with
  | nil => rfl
  | cons a p ih =>
    rw [ev_cons, ih fun b hb => h b (List.mem_cons_of_mem _ hb), h a List.mem_cons_self]
    grind
def tw (s c : Rat) : List Rat → List Rat
  | [] => []
  | a :: p => a * (s - c) :: tw (2 * s) c p
theorem ev_tw (c : Rat) (p : List Rat) : ∀ s x, evl (tw s c p) x = s * evl p (2 * x) - c * evl p x := by
  induction p with
  | nil => intro s x; show (0 : Rat) = s * 0 - c * 0; grind
  | cons a p ih =>
    intro s x
    show a * (s - c) + x * evl (tw (2 * s) c p) x = _
    rw [ih, ev_cons, ev_cons]
    grind
theorem tw_len (c : Rat) (p : List Rat) : ∀ s, (tw s c p).length = p.length := by
  induction p with
  | nil => intro s; rfl
  | cons a p ih => intro s; show (tw (2 * s) c p).length + 1 = _; rw [ih]; rfl
theorem tw_append (c : Rat) (l : Rat) (p : List Rat) : ∀ s, tw s c (p ++ [l]) = tw s c p ++ [l * (s * 2 ^ p.length - c)] := by
  induction p with
  | nil => intro s; show [l * (s - c)] = [l * (s * 2 ^ 0 - c)]; rw [Rat.pow_zero, Rat.mul_one]
  | cons a p ih =>
    intro s
    show a * (s - c) :: tw (2 * s) c (p ++ [l]) = a * (s - c) :: (tw (2 * s) c p ++ [l * (s * 2 ^ (p.length + 1) - c)])
    rw [ih, Rat.pow_succ]
    congr 4
    grind
theorem tw_Zs (c : Rat) (p : List Rat) : ∀ s, (∀ j, j < p.length → s * 2 ^ j - c ≠ 0) → Zs (tw s c p) → Zs p := by
  induction p with
  | nil => intro s _ _ a h; simp at h
  | cons a p ih =>
    intro s h z b hb
    have z2 : Zs (tw (2 * s) c p) := fun y hy => z y (List.mem_cons_of_mem _ hy)
    have z1 : a * (s - c) = 0 := z _ List.mem_cons_self
    have h0 : s - c ≠ 0 := by
      have := h 0 (by rw [List.length_cons]; omega)
      rw [Rat.pow_zero, Rat.mul_one] at this
      exact this
    rcases List.mem_cons.1 hb with rfl | hb
    · rcases Rat.mul_eq_zero.1 z1 with h1 | h1
      · exact h1
      · exact absurd h1 h0
    · refine ih (2 * s) (fun j hj => ?_) z2 b hb
      have := h (j + 1) (by rw [List.length_cons]; omega)
      rw [Rat.pow_succ] at this
      intro e
      apply this
      grind
theorem two_pow_lt {i n : Nat} (h : i < n) : (2 : Rat) ^ i < 2 ^ n := by
  induction n with
  | zero => omega
  | succ n ih =>
    have hp : (0 : Rat) < 2 ^ n := Rat.pow_pos (by decide)
    rw [Rat.pow_succ]
    by_cases e : i = n
    · subst e; grind
    · have := ih (by omega); grind
theorem one_pow' (n : Nat) : (1 : Rat) ^ n = 1 := by
  induction n with
  | zero => rw [Rat.pow_zero]
  | succ n ih => rw [Rat.pow_succ, ih, Rat.mul_one]
theorem pow_add' (x : Rat) (m n : Nat) : x ^ (m + n) = x ^ m * x ^ n := by
  induction n with
  | zero => rw [Nat.add_zero, Rat.pow_zero, Rat.mul_one]
  | succ n ih => rw [← Nat.add_assoc, Rat.pow_succ, ih, Rat.pow_succ, Rat.mul_assoc]
theorem ev_zero : ∀ (n : Nat) (p : List Rat), p.length = n → (∀ x, evl p x = 0) → Zs p := by
  intro n
  induction n with
  | zero => intro p h _ a ha; rw [List.length_eq_zero_iff.1 h] at ha; simp at ha
  | succ n ih =>
    intro p hl h
    rcases List.eq_nil_or_concat p with rfl | ⟨p', l, rfl⟩
    · simp at hl
    have hl' : p'.length = n := by rw [List.length_concat] at hl; omega
    rw [List.concat_eq_append] at h ⊢
    have z : Zs (tw 1 (2 ^ n) p') := by
      refine ih _ (by rw [tw_len, hl']) fun x => ?_
      have e := ev_tw (2 ^ n) (p' ++ [l]) 1 x
      rw [h, h, tw_append, ev_append, hl'] at e
      have e2 : evl [l * (1 * (2 : Rat) ^ n - 2 ^ n)] x = 0 := by rw [ev_cons, ev_nil]; grind
      rw [e2] at e
      grind
    have z' : Zs p' := by
      refine tw_Zs _ p' 1 (fun j hj e => ?_) z
      have := two_pow_lt (show j < n by omega)
      grind
    have h1 := h 1
    rw [ev_append, ev_Zs z', ev_cons, ev_nil, one_pow'] at h1
    intro b hb
    rcases List.mem_append.1 hb with hb | hb
    · exact z' b hb
    · rw [List.mem_singleton] at hb
      grind
theorem ev_none {p : List Rat} (h : ∀ x, evl p x = 0) : Zs p := ev_zero _ p rfl h
def pneg (p : List Rat) : List Rat := p.map fun a => -a
theorem ev_pneg (p : List Rat) (x : Rat) : evl (pneg p) x = -evl p x := by
  induction p with
  | nil => show (0 : Rat) = -0; grind
  | cons a p ih =>
    show -a + x * evl (pneg p) x = -(a + x * evl p x)
    rw [ih]
    grind
def padd : List Rat → List Rat → List Rat
  | [], q => q
  | p, [] => p
  | a :: p, b :: q => (a + b) :: padd p q
theorem ev_padd : ∀ (p q : List Rat) (x : Rat), evl (padd p q) x = evl p x + evl q x
  | [], q, x => by show evl (padd [] q) x = 0 + evl q x; rw [padd]; grind
  | a :: p, [], x => by show evl (a :: p) x = evl (a :: p) x + 0; grind
  | a :: p, b :: q, x => by
    show (a + b) + x * evl (padd p q) x = (a + x * evl p x) + (b + x * evl q x)
    rw [ev_padd p q x]
    grind
theorem padd_len : ∀ (p q : List Rat), (padd p q).length = max p.length q.length
  | [], q => by rw [padd]; simp
  | a :: p, [] => by show (a :: p).length = _; simp
  | a :: p, b :: q => by
    show (padd p q).length + 1 = _
    rw [padd_len p q, List.length_cons, List.length_cons]
    omega
/-- no zero at the end -/
def Tr (p : List Rat) : Prop := ∀ a, p.getLast? = some a → a ≠ 0
theorem Tr.tail {a : Rat} {p : List Rat} (h : Tr (a :: p)) : Tr p := fun b hb => h b (by rw [List.getLast?_cons, hb]; rfl)
theorem Tr.zs {p : List Rat} (h : Tr p) (z : Zs p) : p = [] := by
  cases p with
  | nil => rfl
  | cons a p =>
    have e : (a :: p).getLast? = some ((a :: p).getLast (by simp)) := List.getLast?_eq_some_getLast (by simp)
    exact absurd (z _ (List.getLast_mem (by simp))) (h _ e)
theorem zs_diff : ∀ (p q : List Rat), Tr p → Tr q → Zs (padd p (pneg q)) → p = q
  | [], q, _, hq, z => by
    have : Zs q := fun a ha => by
      have := z (-a) (by show -a ∈ padd [] (pneg q); rw [padd]; exact List.mem_map_of_mem ha)
      grind
    exact (hq.zs this).symm
  | a :: p, [], hp, _, z => hp.zs z
  | a :: p, b :: q, hp, hq, z => by
    have z0 : a + -b = 0 := z _ List.mem_cons_self
    have := zs_diff p q hp.tail hq.tail fun y hy => z y (List.mem_cons_of_mem _ hy)
    rw [this, show a = b by grind]
theorem ev_inj {p q : List Rat} (hp : Tr p) (hq : Tr q) (h : ∀ x, evl p x = evl q x) : p = q :=
  zs_diff p q hp hq (ev_none fun x => by rw [ev_padd, ev_pneg, h]; grind)
theorem zs_len : ∀ (p q : List Rat), p.length = q.length → Zs (padd p (pneg q)) → p = q
  | [], [], _, _ => rfl
  | [], b :: q, h, _ => by simp at h
  | a :: p, [], h, _ => by simp at h
  | a :: p, b :: q, h, z => by
    have z0 : a + -b = 0 := z _ List.mem_cons_self
    have := zs_len p q (by simpa using h) fun y hy => z y (List.mem_cons_of_mem _ hy)
    rw [this, show a = b by grind]
theorem ev_inj_len {p q : List Rat} (hl : p.length = q.length) (h : ∀ x, evl p x = evl q x) : p = q :=
  zs_len p q hl (ev_none fun x => by rw [ev_padd, ev_pneg, h]; grind)
def trim : List Rat → List Rat
  | [] => []
  | a :: p => match trim p with
    | [] => if a = 0 then [] else [a]
    | b :: t => a :: b :: t
theorem ev_trim : ∀ (p : List Rat) (x : Rat), evl (trim p) x = evl p x
  | [], x => rfl
  | a :: p, x => by
    have ih := ev_trim p x
    rw [trim]
    split
    · rename_i e
      rw [e] at ih
      split
      · rename_i h; rw [ev_cons, ← ih, h, ev_nil]; grind
      · rw [ev_cons, ev_cons, ← ih]
    · rename_i b t e
      rw [e] at ih
      rw [ev_cons, ih, ev_cons]
theorem trim_len : ∀ p : List Rat, (trim p).length ≤ p.length
  | [] => Nat.le_refl _
  | a :: p => by
    have ih := trim_len p
    rw [trim]
    split
    · split <;> simp
    · rename_i b t e
      rw [e] at ih
      rw [List.length_cons, List.length_cons (a := a) (as := p)]
      omega
theorem trim_tr : ∀ p : List Rat, Tr (trim p)
  | [] => fun a h => by simp [trim] at h
  | a :: p => by
    have ih := trim_tr p
    rw [trim]
    split
    · split
      · intro b h; simp at h
      · intro b h
        simp at h
        subst h
        assumption
    · rename_i b t e
      rw [e] at ih
      intro c h
      rw [List.getLast?_cons] at h
      have e3 : (b :: t).getLast? = some ((b :: t).getLast (by simp)) := List.getLast?_eq_some_getLast (by simp)
      rw [e3] at h
      refine ih c ?_
      rw [e3, ← h]
      rfl
theorem trim_eq {p q : List Rat} (hq : Tr q) (h : ∀ x, evl p x = evl q x) : trim p = q := ev_inj (trim_tr p) hq fun x => by rw [ev_trim, h]
def psc (c : Rat) (p : List Rat) : List Rat := p.map fun a => c * a
theorem ev_psc (c : Rat) (p : List Rat) (x : Rat) : evl (psc c p) x = c * evl p x := by
  induction p with
  | nil => show (0 : Rat) = c * 0; grind
  | cons a p ih =>
    show c * a + x * evl (psc c p) x = c * (a + x * evl p x)
    rw [ih]
    grind
def pmul : List Rat → List Rat → List Rat
  | [], _ => []
  | a :: p, q => padd (psc a q) (0 :: pmul p q)
theorem ev_pmul : ∀ (p q : List Rat) (x : Rat), evl (pmul p q) x = evl p x * evl q x
  | [], q, x => by show (0 : Rat) = 0 * evl q x; grind
  | a :: p, q, x => by
    rw [pmul, ev_padd, ev_psc, ev_cons, ev_cons, ev_pmul p q x]
    grind
theorem pmul_len : ∀ (p q : List Rat), (pmul p q).length ≤ p.length + q.length
  | [], q => by simp [pmul]
  | a :: p, q => by
    have := pmul_len p q
    rw [pmul, padd_len, List.length_cons, List.length_cons]
    unfold psc
    rw [List.length_map]
    omega
/-- a product's last coefficient -/
theorem mul_last (q' d' : List Rat) (l m : Rat) (hl : l ≠ 0) (hm : m ≠ 0) : ∃ P : List Rat, Tr P ∧ P.length = q'.length + d'.length + 1 ∧ ∀ x, evl P x = evl (q' ++ [l]) x * evl (d' ++ [m]) x := by
  let R0 := padd (pmul q' d') (padd (List.replicate q'.length 0 ++ psc l d') (List.replicate d'.length 0 ++ psc m q'))
  have hR0 : R0.length ≤ q'.length + d'.length := by
    have := pmul_len q' d'
    show (padd _ (padd _ _)).length ≤ _
    rw [padd_len, padd_len, List.length_append, List.length_append, List.length_replicate, List.length_replicate]
    unfold psc
    rw [List.length_map, List.length_map]
    omega
  refine ⟨R0 ++ List.replicate (q'.length + d'.length - R0.length) 0 ++ [l * m], ?_, ?_, fun x => ?_⟩
  · intro a h
    rw [List.getLast?_append] at h
    simp at h
    subst h
    intro e
    rcases Rat.mul_eq_zero.1 e with h | h
    · exact hl h
    · exact hm h
  · rw [List.length_append, List.length_append, List.length_replicate, List.length_singleton]
    omega
  · rw [ev_append, ev_append, ev_zeros, List.length_append, List.length_replicate, show R0.length + (q'.length + d'.length - R0.length) = q'.length + d'.length by omega]
    show evl (padd _ (padd _ _)) x + _ + _ = _
    rw [ev_padd, ev_padd, ev_pmul, ev_append, ev_append, ev_append, ev_append, ev_zeros, ev_zeros, ev_psc, ev_psc, List.length_replicate, List.length_replicate, ev_cons, ev_cons, ev_cons, ev_nil, pow_add']
    grind
theorem Tr.split {p : List Rat} (h : Tr p) (hn : p ≠ []) : ∃ p' l, p = p' ++ [l] ∧ l ≠ 0 := by
  rcases List.eq_nil_or_concat p with rfl | ⟨p', l, rfl⟩
  · exact absurd rfl hn
  · rw [List.concat_eq_append] at h ⊢
    exact ⟨p', l, rfl, h l (by simp)⟩
theorem mul_len {q d P : List Rat} (hq : Tr q) (hqn : q ≠ []) (hd : Tr d) (hdn : d ≠ []) (hP : Tr P) (h : ∀ x, evl P x = evl q x * evl d x) : P.length + 1 = q.length + d.length := by
  obtain ⟨q', l, rfl, hl⟩ := hq.split hqn
  obtain ⟨d', m, rfl, hm⟩ := hd.split hdn
  obtain ⟨P', h1, h2, h3⟩ := mul_last q' d' l m hl hm
  rw [ev_inj hP h1 fun x => by rw [h, h3], h2, List.length_append, List.length_append]
  simp only [List.length_singleton]
  omega
/-- division is settled -/
theorem div_unique {s s' d r r' : List Rat} (hs : Tr s) (hs' : Tr s') (hd : Tr d) (hr : Tr r) (hr' : Tr r') (h1 : r.length < d.length) (h2 : r'.length < d.length)
    (h : ∀ x, evl s x * evl d x + evl r x = evl s' x * evl d x + evl r' x) : s = s' ∧ r = r' := by
  have hdn : d ≠ [] := by intro e; subst e; simp at h1
  by_cases ht : trim (padd s (pneg s')) = []
  · have es : ∀ x, evl s x = evl s' x := fun x => by
      have := ev_trim (padd s (pneg s')) x
      rw [ht, ev_padd, ev_pneg, ev_nil] at this
      grind
    refine ⟨ev_inj hs hs' es, ev_inj hr hr' fun x => ?_⟩
    have := h x
    rw [es] at this
    grind
  · exfalso
    have hP : ∀ x, evl (trim (padd r' (pneg r))) x = evl (trim (padd s (pneg s'))) x * evl d x := fun x => by
      have := h x
      rw [ev_trim, ev_trim, ev_padd, ev_padd, ev_pneg, ev_pneg]
      grind
    have e := mul_len (trim_tr _) ht hd hdn (trim_tr _) hP
    have e2 := trim_len (padd r' (pneg r))
    rw [padd_len] at e2
    unfold pneg at e e2
    rw [List.length_map] at e2
    have : (trim (padd s (pneg s'))).length ≠ 0 := fun e => ht (List.length_eq_zero_iff.1 e)
    unfold pneg at this
    omega
set_option Elab.async false
set_option linter.all false
set_option maxRecDepth 100000
set_option maxHeartbeats 1000000
/-! ### rationals over a power of 60, with a bound -/
def Dd (a M : Nat) (q : Rat) : Prop := ∃ m : Int, q * (60 : Rat) ^ a = (m : Rat) ∧ m.natAbs ≤ M * 60 ^ a
theorem p60 (a : Nat) : ((60 : Rat) ^ a) ≠ 0 := by
  have : (0 : Rat) < 60 ^ a := Rat.pow_pos (by decide)
  grind
theorem Dd.up {a M : Nat} {q : Rat} (h : Dd a M q) (b : Nat) : Dd (a + b) M q := by
  obtain ⟨m, e, h1⟩ := h
  refine ⟨m * 60 ^ b, ?_, ?_⟩
  · rw [pow_add', ← Rat.mul_assoc, e, Rat.intCast_mul, Rat.intCast_pow]
    rfl
  · rw [Int.natAbs_mul, Int.natAbs_pow, Nat.pow_add, ← Nat.mul_assoc]
    exact Nat.mul_le_mul_right _ h1
theorem Dd.mono {a M a' M' : Nat} {q : Rat} (h : Dd a M q) (ha : a ≤ a') (hM : M ≤ M') : Dd a' M' q := by
  obtain ⟨m, e, h1⟩ := h.up (a' - a)
  rw [show a + (a' - a) = a' by omega] at e h1
  exact ⟨m, e, Nat.le_trans h1 (Nat.mul_le_mul_right _ hM)⟩
theorem Dd.add {a M N : Nat} {p q : Rat} (h : Dd a M p) (k : Dd a N q) : Dd a (M + N) (p + q) := by
  obtain ⟨m, e, h1⟩ := h
  obtain ⟨n, f, k1⟩ := k
  refine ⟨m + n, by rw [Rat.add_mul, e, f, Rat.intCast_add], ?_⟩
  rw [Nat.add_mul]
  omega
theorem Dd.neg {a M : Nat} {p : Rat} (h : Dd a M p) : Dd a M (-p) := by
  obtain ⟨m, e, h1⟩ := h
  exact ⟨-m, by rw [Rat.neg_mul, e, Rat.intCast_neg], by rw [Int.natAbs_neg]; exact h1⟩
theorem Dd.mul {a b M N : Nat} {p q : Rat} (h : Dd a M p) (k : Dd b N q) : Dd (a + b) (M * N) (p * q) := by
  obtain ⟨m, e, h1⟩ := h
  obtain ⟨n, f, k1⟩ := k
  refine ⟨m * n, by rw [Rat.intCast_mul, ← e, ← f, pow_add']; grind, ?_⟩
  rw [Int.natAbs_mul, Nat.pow_add, show M * N * (60 ^ a * 60 ^ b) = (M * 60 ^ a) * (N * 60 ^ b) by ac_rfl]
  exact Nat.mul_le_mul h1 k1
theorem Dd.zero (a M : Nat) : Dd a M 0 := ⟨0, by rw [Rat.zero_mul]; rfl, Nat.zero_le _⟩
theorem Dd.qb {a M k : Nat} {q : Rat} (h : Dd a M q) (hk : M * 60 ^ a < 2 ^ k) (hk' : 60 ^ a < 2 ^ k) : Qb k q := by
  obtain ⟨m, e, h1⟩ := h
  have e2 : q = Rat.divInt m ((60 : Int) ^ a) := by
    rw [Rat.divInt_eq_div, Rat.intCast_pow, ← e]
    have := p60 a
    grind
  rw [e2]
  refine .divInt (by omega) (by rw [Int.natAbs_pow]; exact hk') ?_
  have : (0 : Int) < 60 ^ a := Int.pow_pos (by decide)
  omega
theorem take_trim {p : List Rat} {a : Nat} (h : ∀ j, a ≤ j → p.getD j 0 = 0) (hz : a = 0 ∨ p.getD (a - 1) 0 ≠ 0) (ha : a ≤ p.length) : trim p = p.take a := by
  have z : Zs (p.drop a) := fun b hb => by
    obtain ⟨i, hi, e⟩ := List.getElem_of_mem hb
    have := h (a + i) (by omega)
    rw [List.length_drop] at hi
    rw [List.getElem_drop] at e
    rw [List.getD_eq_getElem?_getD, List.getElem?_eq_getElem (by omega), Option.getD_some] at this
    rw [← e]
    exact this
  refine trim_eq (fun b hb => ?_) fun x => ?_
  · rcases hz with rfl | hz
    · simp at hb
    · have h0 : 0 < a := by
        rcases Nat.eq_zero_or_pos a with q | q
        · subst q; simp at hb
        · exact q
      rw [List.getLast?_eq_getElem?, List.length_take, Nat.min_eq_left ha, List.getElem?_take_of_lt (by omega)] at hb
      rw [List.getD_eq_getElem?_getD, hb] at hz
      exact hz
  · have e : p = p.take a ++ p.drop a := (List.take_append_drop a p).symm
    rw [show evl p x = evl (p.take a ++ p.drop a) x by rw [← e], ev_append, ev_Zs z]
    grind
def adds (f : Rat) : Nat → List Rat → List Rat → List Rat
  | _, p, [] => p
  | k, p, c :: d => adds f (k + 1) (p.set k (p.getD k 0 + f * c)) d
theorem adds_len (f : Rat) : ∀ (d : List Rat) (k : Nat) (p : List Rat), (adds f k p d).length = p.length
  | [], _, _ => rfl
  | c :: d, k, p => by rw [adds, adds_len f d, List.length_set]
theorem ev_adds (f x : Rat) : ∀ (d : List Rat) (k : Nat) (p : List Rat), k + d.length ≤ p.length → evl (adds f k p d) x = evl p x + f * x ^ k * evl d x
  | [], k, p, _ => by rw [adds, ev_nil]; grind
  | c :: d, k, p, h => by
    rw [List.length_cons] at h
    rw [adds, ev_adds f x d (k + 1) _ (by rw [List.length_set]; omega), ev_set _ _ _ _ (by omega), ev_cons, Rat.pow_succ]
    grind
theorem getD_set_eq (p : List Rat) (i j : Nat) (c : Rat) (h : i < p.length) : (p.set i c).getD j 0 = if i = j then c else p.getD j 0 := by
  rw [List.getD_eq_getElem?_getD, List.getD_eq_getElem?_getD, List.getElem?_set]
  split
  · rename_i e
    subst e
    first | rfl | (rw [if_pos h]; rfl)
  · rfl
theorem adds_get (f : Rat) : ∀ (d : List Rat) (k : Nat) (p : List Rat) (i : Nat), k + d.length ≤ p.length → (adds f k p d).getD i 0 = p.getD i 0 + (if k ≤ i ∧ i < k + d.length then f * d.getD (i - k) 0 else 0)
  | [], k, p, i, _ => by
    rw [adds, if_neg (by rw [List.length_nil]; omega), Rat.add_zero]
  | c :: d, k, p, i, h => by
    rw [List.length_cons] at h
    rw [adds, adds_get f d (k + 1) _ i (by rw [List.length_set]; omega), getD_set_eq _ _ _ _ (by omega), List.length_cons]
    by_cases e : k = i
    · subst e
      rw [if_pos rfl, if_neg (by omega), if_pos (by omega), Nat.sub_self, Rat.add_zero]
      rfl
    · rw [if_neg e]
      by_cases q : k + 1 ≤ i ∧ i < k + 1 + d.length
      · rw [if_pos q, if_pos (by omega)]
        congr 2
        rw [show i - k = (i - (k + 1)) + 1 by omega, List.getD_cons_succ]
      · rw [if_neg q, if_neg (by omega)]
theorem adds_snoc (f c : Rat) : ∀ (d : List Rat) (k : Nat) (p : List Rat), adds f k p (d ++ [c]) = (adds f k p d).set (k + d.length) ((adds f k p d).getD (k + d.length) 0 + f * c)
  | [], k, p => rfl
  | b :: d, k, p => by
    rw [List.cons_append, adds, adds_snoc f c d (k + 1), List.length_cons, adds, show k + 1 + d.length = k + (d.length + 1) by omega]
set_option Elab.async false
set_option linter.all false
set_option maxRecDepth 100000
set_option maxHeartbeats 1000000
/-! ### polynomials: sizes, product, division (no program in sight) -/
def QL (n : Nat) (p : List Rat) : Prop := ∀ i, Qb n (p.getD i 0)
theorem QL.mono {n m : Nat} {p : List Rat} (h : QL n p) (k : n ≤ m) : QL m p := fun i => (h i).mono k
theorem QL.mem {n : Nat} {p : List Rat} (h : QL n p) : ∀ x ∈ p, Qb n x := fun x hx => by
  obtain ⟨i, hi, e⟩ := List.getElem_of_mem hx
  have := h i
  rw [List.getD_eq_getElem?_getD, List.getElem?_eq_getElem hi, Option.getD_some, e] at this
  exact this
theorem QL.of {n : Nat} {p : List Rat} (hn : 1 ≤ n) (h : ∀ x ∈ p, Qb n x) : QL n p := fun i => by
  rw [List.getD_eq_getElem?_getD]
  cases e : p[i]? with
  | none => exact Qb.zero.mono hn
  | some x => exact h x (List.mem_of_getElem? e)
theorem QL.nil {n : Nat} (hn : 1 ≤ n) : QL n [] := .of hn fun x hx => by simp at hx
theorem QL.take {n : Nat} {p : List Rat} (hn : 1 ≤ n) (h : QL n p) (k : Nat) : QL n (p.take k) := .of hn fun x hx => h.mem x (List.mem_of_mem_take hx)
theorem trim_pre : ∀ p : List Rat, ∃ k, trim p = p.take k
  | [] => ⟨0, rfl⟩
  | a :: p => by
    obtain ⟨k, e⟩ := trim_pre p
    rw [trim]
    split
    · split
      · exact ⟨0, rfl⟩
      · exact ⟨1, rfl⟩
    · rename_i b t e2
      exact ⟨k + 1, by rw [List.take_succ_cons, ← e, e2]⟩
theorem QL.trim {n : Nat} {p : List Rat} (hn : 1 ≤ n) (h : QL n p) : QL n (De.trim p) := by
  obtain ⟨k, e⟩ := trim_pre p
  rw [e]
  exact h.take hn k
theorem QL.padd {n m : Nat} : ∀ {p q : List Rat}, QL n p → QL m q → QL (n + m + 1) (De.padd p q)
  | [], q, hp, hq => by rw [De.padd]; exact hq.mono (by omega)
  | a :: p, [], hp, hq => by show QL _ (a :: p); exact hp.mono (by omega)
  | a :: p, b :: q, hp, hq => fun i => by
    cases i with
    | zero => exact (hp 0).add (hq 0)
    | succ i => exact QL.padd (p := p) (q := q) (fun i => hp (i + 1)) (fun i => hq (i + 1)) i
theorem QL.psc {n m : Nat} {a : Rat} (hn : 1 ≤ n) (ha : Qb n a) : ∀ {p : List Rat}, QL m p → QL (n + m) (De.psc a p)
  | [], _ => .nil (by omega)
  | b :: p, h => fun i => by
    cases i with
    | zero => exact ha.mul (h 0)
    | succ i => exact QL.psc hn ha (p := p) (fun i => h (i + 1)) i
theorem QL.pmul {n m : Nat} (hn : 1 ≤ n) : ∀ {p q : List Rat}, QL n p → QL m q → QL (p.length * (n + m + 1) + 1) (De.pmul p q)
  | [], q, _, _ => .nil (by omega)
  | a :: p, q, hp, hq => by
    have ih := QL.pmul hn (p := p) (q := q) (fun i => hp (i + 1)) hq
    have ih' : QL (p.length * (n + m + 1) + 1) (0 :: De.pmul p q) := fun i => by
      cases i with
      | zero => exact Qb.zero.mono (by omega)
      | succ i => exact ih i
    have := (QL.psc hn (hp 0) hq).padd ih'
    rw [De.pmul]
    refine this.mono ?_
    rw [List.length_cons, Nat.succ_mul]
    omega
def pm (p q : List Rat) : List Rat := trim (pmul p q)
theorem ev_pm (p q : List Rat) (x : Rat) : evl (pm p q) x = evl p x * evl q x := by unfold pm; rw [ev_trim, ev_pmul]
theorem pm_tr (p q : List Rat) : Tr (pm p q) := trim_tr _
theorem pm_len (p q : List Rat) : (pm p q).length ≤ p.length + q.length := Nat.le_trans (trim_len _) (pmul_len p q)
theorem pm_eq {p q r : List Rat} (h : ∀ x, evl r x = evl p x * evl q x) : trim r = pm p q := trim_eq (pm_tr p q) fun x => by rw [h, ev_pm]
theorem QL.pm {n m : Nat} {p q : List Rat} (hn : 1 ≤ n) (hp : QL n p) (hq : QL m q) : QL (p.length * (n + m + 1) + 1) (De.pm p q) := (QL.pmul hn hp hq).trim (by omega)
theorem QL.adds {e m n k : Nat} {f : Rat} {p d : List Rat} (hp : QL e p) (hf : Qb m f) (hd : QL n d) (hk : k + d.length ≤ p.length) : QL (e + m + n + 1) (De.adds f k p d) := fun i => by
  rw [adds_get f d k p i hk]
  split
  · exact ((hp i).add (hf.mul (hd (i - k)))).mono (by omega)
  · rw [Rat.add_zero]
    exact (hp i).mono (by omega)
theorem ev_take_succ {p : List Rat} {j : Nat} (hj : j < p.length) (x : Rat) : evl (p.take (j + 1)) x = evl (p.take j) x + x ^ j * p.getD j 0 := by
  rw [List.take_succ_eq_append_getElem hj, ev_append, List.length_take, Nat.min_eq_left (by omega), ev_cons, ev_nil, List.getD_eq_getElem?_getD, List.getElem?_eq_getElem hj, Option.getD_some]
  grind
-- division
def pd (d : List Rat) (inv : Rat) : Nat → List Rat → List Rat × List Rat
  | 0, p => ([], p)
  | k + 1, p =>
    let f := p.getD (k + d.length - 1) 0 * inv
    let r := pd d inv k (adds (-f) k p d)
    (r.1 ++ [f], r.2)
theorem mul_top (q' d' : List Rat) (l m : Rat) : ∃ R : List Rat, R.length = q'.length + d'.length ∧ ∀ x, evl (R ++ [l * m]) x = evl (q' ++ [l]) x * evl (d' ++ [m]) x := by
  let R0 := padd (pmul q' d') (padd (List.replicate q'.length 0 ++ psc l d') (List.replicate d'.length 0 ++ psc m q'))
  have hR0 : R0.length ≤ q'.length + d'.length := by
    have := pmul_len q' d'
    show (padd _ (padd _ _)).length ≤ _
    rw [padd_len, padd_len, List.length_append, List.length_append, List.length_replicate, List.length_replicate]
    unfold psc
    rw [List.length_map, List.length_map]
    omega
  refine ⟨R0 ++ List.replicate (q'.length + d'.length - R0.length) 0, ?_, fun x => ?_⟩
  · rw [List.length_append, List.length_replicate]
    omega
  · rw [ev_append, ev_append, ev_zeros, List.length_append, List.length_replicate, show R0.length + (q'.length + d'.length - R0.length) = q'.length + d'.length by omega]
    show evl (padd _ (padd _ _)) x + _ + _ = _
    rw [ev_padd, ev_padd, ev_pmul, ev_append, ev_append, ev_append, ev_append, ev_zeros, ev_zeros, ev_psc, ev_psc, List.length_replicate, List.length_replicate, ev_cons, ev_cons, ev_cons, ev_nil, pow_add']
    grind
theorem ev_take_zero {p : List Rat} {n : Nat} (h : ∀ i, n ≤ i → p.getD i 0 = 0) (x : Rat) : evl (p.take n) x = evl p x := by
  have z : Zs (p.drop n) := fun b hb => by
    obtain ⟨i, hi, e⟩ := List.getElem_of_mem hb
    have := h (n + i) (by omega)
    rw [List.length_drop] at hi
    rw [List.getElem_drop] at e
    rw [List.getD_eq_getElem?_getD, List.getElem?_eq_getElem (by omega), Option.getD_some] at this
    rw [← e]
    exact this
  have e : p = p.take n ++ p.drop n := (List.take_append_drop n p).symm
  rw [show evl p x = evl (p.take n ++ p.drop n) x by rw [← e], ev_append, ev_Zs z]
  grind
/-- the coefficient on top of s d + r -/
theorem top_coef {s d r p : List Rat} {c m : Rat} (hr : r.length ≤ d.length) (hl : s.length + d.length < p.length) (hz : ∀ i, s.length + d.length + 1 ≤ i → p.getD i 0 = 0)
    (h : ∀ x, evl p x = evl (s ++ [c]) x * evl (d ++ [m]) x + evl r x) : p.getD (s.length + d.length) 0 = c * m := by
  obtain ⟨R, hR, e⟩ := mul_top s d c m
  have hA : (padd R r).length = s.length + d.length := by rw [padd_len, hR]; omega
  have key : p.take (s.length + d.length + 1) = padd R r ++ [c * m] := by
    refine ev_inj_len ?_ fun x => ?_
    · rw [List.length_take, List.length_append, hA, List.length_singleton]
      omega
    · rw [ev_take_zero hz, h, ← e, ev_append, ev_append, hA, hR, ev_padd]
      grind
  have g : p.getD (s.length + d.length) 0 = (p.take (s.length + d.length + 1)).getD (s.length + d.length) 0 := by
    rw [List.getD_eq_getElem?_getD, List.getD_eq_getElem?_getD, List.getElem?_take_of_lt (by omega)]
  rw [g, key, List.getD_eq_getElem?_getD, List.getElem?_append_right (by omega), hA, Nat.sub_self]
  rfl
/-- the rests are what they must be -/
structure DivSt (d r s p : List Rat) : Prop where
  zero : ∀ i, s.length + d.length - 1 ≤ i → p.getD i 0 = 0
  len : s = [] ∨ s.length + d.length - 1 ≤ p.length
  eq : ∀ x, evl p x = evl s x * evl d x + evl r x
theorem DivSt.step {d' r s p : List Rat} {c m : Rat} (hr : r.length ≤ d'.length) (hm : m ≠ 0) (h : DivSt (d' ++ [m]) r (s ++ [c]) p) :
    p.getD (s.length + (d' ++ [m]).length - 1) 0 * m⁻¹ = c ∧ s.length + (d' ++ [m]).length ≤ p.length ∧ DivSt (d' ++ [m]) r s (adds (-c) s.length p (d' ++ [m])) := by
  obtain ⟨z, l, e⟩ := h
  have ls : (s ++ [c]).length = s.length + 1 := List.length_append
  have ld : (d' ++ [m]).length = d'.length + 1 := List.length_append
  rw [ls, ld] at z l
  have l' : s.length + d'.length + 1 ≤ p.length := by
    rcases l with l | l
    · simp at l
    · omega
  have t := top_coef hr (by omega) (fun i hi => z i (by omega)) e
  rw [ld]
  refine ⟨?_, by omega, ?_, ?_, fun x => ?_⟩
  · rw [show s.length + (d'.length + 1) - 1 = s.length + d'.length by omega, t]
    grind
  · intro i hi
    rw [ld] at hi
    rw [adds_get _ _ _ _ _ (by rw [ld]; omega), ld]
    by_cases q : i = s.length + d'.length
    · subst q
      rw [if_pos (by omega), t, show s.length + d'.length - s.length = d'.length by omega, List.getD_eq_getElem?_getD, List.getElem?_append_right (Nat.le_refl _), Nat.sub_self]
      show c * m + -c * m = 0
      grind
    · rw [if_neg (by omega), z i (by omega), Rat.add_zero]
  · rw [adds_len, ld]
    exact .inr (by omega)
  · rw [ev_adds _ _ _ _ _ (by rw [ld]; omega), e, ev_append s [c], ev_cons, ev_nil]
    grind
theorem DivSt.start {d r s p : List Rat} (hp : Tr p) (hs : Tr s) (hd : Tr d) (hdn : d ≠ []) (hr : Tr r) (hl : r.length < d.length) (h : ∀ x, evl p x = evl s x * evl d x + evl r x) : DivSt d r s p ∧ s.length = p.length + 1 - d.length := by
  by_cases sn : s = []
  · subst sn
    have e : p = r := ev_inj hp hr fun x => by rw [h, ev_nil]; grind
    subst e
    refine ⟨⟨fun i hi => ?_, .inl rfl, h⟩, ?_⟩
    · rw [List.length_nil] at hi
      rw [List.getD_eq_getElem?_getD, List.getElem?_eq_none (by omega)]
      rfl
    · rw [List.length_nil]; omega
  · have key : p.length + 1 = s.length + d.length := by
      obtain ⟨s', c, rfl, hc⟩ := hs.split sn
      obtain ⟨d', m, rfl, hm⟩ := hd.split hdn
      obtain ⟨R, hR, e⟩ := mul_top s' d' c m
      have hrl : r.length ≤ d'.length := by rw [List.length_append, List.length_singleton] at hl; omega
      have hA : (padd R r).length = s'.length + d'.length := by rw [padd_len, hR]; omega
      have : p = padd R r ++ [c * m] := by
        refine ev_inj hp ?_ fun x => ?_
        · intro b hb
          simp at hb
          subst hb
          intro z
          rcases Rat.mul_eq_zero.1 z with z | z
          · exact hc z
          · exact hm z
        · rw [h, ← e, ev_append, ev_append, hA, hR, ev_padd]
          grind
      rw [this, List.length_append, hA, List.length_append, List.length_append, List.length_singleton, List.length_singleton, List.length_singleton]
      omega
    refine ⟨⟨fun i hi => ?_, .inr (by omega), h⟩, by omega⟩
    rw [List.getD_eq_getElem?_getD, List.getElem?_eq_none (by omega)]
    rfl
theorem DivSt.final {d r p : List Rat} (hr : Tr r) (h : DivSt d r [] p) : trim p = r := trim_eq hr fun x => by
  rw [h.eq, ev_nil]
  grind
theorem div_exists {d' : List Rat} {m : Rat} (hm : m ≠ 0) {n : Nat} (hn : 1 ≤ n) (qd : QL n (d' ++ [m])) : ∀ (K : Nat) (o : List Rat) (e : Nat), QL e o → (∀ i, K + d'.length ≤ i → o.getD i 0 = 0) → (K = 0 ∨ K + d'.length ≤ o.length) →
    ∃ s R : List Rat, s.length = K ∧ (∀ i, d'.length ≤ i → R.getD i 0 = 0) ∧ (∀ x, evl o x = evl s x * evl (d' ++ [m]) x + evl R x) ∧ QL (2 ^ K * (e + 2 * n + 1)) s ∧ QL (2 ^ K * (e + 2 * n + 1)) R
  | 0, o, e, qo, z, _ => ⟨[], o, rfl, fun i hi => z i (by omega), fun x => by rw [ev_nil]; grind, .nil (by omega), qo.mono (by omega)⟩
  | K + 1, o, e, qo, z, l => by
    have ld : (d' ++ [m]).length = d'.length + 1 := List.length_append
    have l' : K + 1 + d'.length ≤ o.length := by omega
    have qm : Qb n m := qd.mem m (by simp)
    have qf : Qb (e + n) (o.getD (K + d'.length) 0 * m⁻¹) := (qo _).mul (qm.inv hn)
    generalize hf : o.getD (K + d'.length) 0 * m⁻¹ = f at qf
    have q1 := qo.adds (k := K) qf.neg qd (by omega)
    obtain ⟨s, R, hs, hR, he, qs, qR⟩ := div_exists hm hn qd K (adds (-f) K o (d' ++ [m])) _ q1 (fun i hi => by
      rw [adds_get _ _ _ _ _ (by omega), ld]
      by_cases q : i = K + d'.length
      · subst q
        rw [if_pos (by omega), show K + d'.length - K = d'.length by omega, List.getD_eq_getElem?_getD (l := d' ++ [m]), List.getElem?_append_right (Nat.le_refl _), Nat.sub_self]
        show _ + -f * m = 0
        rw [← hf]
        grind
      · rw [if_neg (by omega), z i (by omega), Rat.add_zero]) (.inr (by rw [adds_len]; omega))
    have eb : 2 ^ K * (e + (e + n) + n + 1 + 2 * n + 1) = 2 ^ (K + 1) * (e + 2 * n + 1) := by
      rw [Nat.pow_succ, Nat.mul_assoc]
      congr 1
      omega
    rw [eb] at qs qR
    have hp : 1 ≤ 2 ^ (K + 1) := Nat.one_le_two_pow
    have hle : e + n ≤ 2 ^ (K + 1) * (e + 2 * n + 1) := Nat.le_trans (by omega) (Nat.le_mul_of_pos_left (e + 2 * n + 1) hp)
    refine ⟨s ++ [f], R, by rw [List.length_append, hs]; rfl, hR, fun x => ?_, .of (Nat.le_trans (by omega) (Nat.le_mul_of_pos_left (e + 2 * n + 1) hp)) fun x hx => ?_, qR⟩
    · have := he x
      rw [ev_adds _ _ _ _ _ (by omega)] at this
      rw [ev_append s, ev_cons, ev_nil, hs]
      grind
    · rcases List.mem_append.mp hx with hx | hx
      · exact qs.mem x hx
      · rw [List.mem_singleton.mp hx]
        exact qf.mono hle
/-- quotient and remainder, with sizes -/
theorem div_ex {p d : List Rat} {e n : Nat} (hp : Tr p) (hd : Tr d) (hdn : d ≠ []) (hn : 1 ≤ n) (qp : QL e p) (qd : QL n d) :
    ∃ s r : List Rat, Tr s ∧ Tr r ∧ r.length < d.length ∧ (∀ x, evl p x = evl s x * evl d x + evl r x) ∧ QL (2 ^ (p.length + 1 - d.length) * (e + 2 * n + 1)) s ∧ QL (2 ^ (p.length + 1 - d.length) * (e + 2 * n + 1)) r ∧ s.length = p.length + 1 - d.length := by
  obtain ⟨d', m, rfl, hm⟩ := hd.split hdn
  have ld : (d' ++ [m]).length = d'.length + 1 := List.length_append
  obtain ⟨s, R, hs, hR, he, qs, qR⟩ := div_exists hm hn qd (p.length + 1 - (d' ++ [m]).length) p e qp (fun i hi => by rw [List.getD_eq_getElem?_getD, List.getElem?_eq_none (by omega)]; rfl) (by omega)
  have hb : 1 ≤ 2 ^ (p.length + 1 - (d' ++ [m]).length) * (e + 2 * n + 1) := Nat.le_trans (by omega) (Nat.le_mul_of_pos_left (e + 2 * n + 1) Nat.one_le_two_pow)
  have h1 : (trim (R.take d'.length)).length < (d' ++ [m]).length := by
    have := trim_len (R.take d'.length)
    rw [List.length_take] at this
    omega
  have h2 : ∀ x, evl p x = evl (trim s) x * evl (d' ++ [m]) x + evl (trim (R.take d'.length)) x := fun x => by rw [ev_trim, ev_trim, ev_take_zero hR, he]
  refine ⟨trim s, trim (R.take d'.length), trim_tr _, trim_tr _, h1, h2, qs.trim hb, (qR.take hb _).trim hb, ?_⟩
  exact (DivSt.start hp (trim_tr _) hd hdn (trim_tr _) h1 h2).2
def muT : Nat → Nat
  | 0 => 1
  | L + 1 => 2 ^ (L + 1) * muT L
theorem muT_pos : ∀ L, 1 ≤ muT L
  | 0 => Nat.le_refl 1
  | L + 1 => Nat.le_trans (muT_pos L) (Nat.le_mul_of_pos_left _ Nat.one_le_two_pow)
theorem muT_mono {a b : Nat} (h : a ≤ b) : muT a ≤ muT b := by
  induction b with
  | zero => rw [show a = 0 by omega]; exact Nat.le_refl _
  | succ b ih =>
    by_cases e : a = b + 1
    · rw [e]; exact Nat.le_refl _
    · exact Nat.le_trans (ih (by omega)) (Nat.le_mul_of_pos_left _ Nat.one_le_two_pow)
theorem muT_step {L K e n B : Nat} (h : (e + 2 * n + 1) * muT (L + 1) ≤ B) (hK : K ≤ L) : (2 ^ K * (e + 2 * n + 1) + 2 * n + 1) * muT L ≤ B := by
  refine Nat.le_trans ?_ h
  rw [muT, ← Nat.mul_assoc]
  refine Nat.mul_le_mul_right _ ?_
  have h1 : 2 ^ K ≤ 2 ^ L := Nat.pow_le_pow_right (by decide) hK
  have h2 : 2 ^ K * (e + 2 * n + 1) ≤ 2 ^ L * (e + 2 * n + 1) := Nat.mul_le_mul_right _ h1
  have h3 : 1 * (e + 2 * n + 1) ≤ 2 ^ L * (e + 2 * n + 1) := Nat.mul_le_mul_right _ Nat.one_le_two_pow
  rw [Nat.mul_comm (e + 2 * n + 1), Nat.pow_succ, Nat.mul_comm (2 ^ L) 2, Nat.mul_assoc]
  omega
set_option Elab.async false
set_option linter.all false
set_option maxRecDepth 100000
set_option maxHeartbeats 1000000
/-! ### polynomials: sizes over a common denominator; divisors (no program in sight) -/
def IB (b : Nat) (p : List Rat) : Prop := ∃ D : Int, D ≠ 0 ∧ D.natAbs < 2 ^ b ∧ ∀ i, ∃ m : Int, m.natAbs < 2 ^ b ∧ p.getD i 0 * (D : Rat) = (m : Rat)
theorem cast_ne {D : Int} (h : D ≠ 0) : (D : Rat) ≠ 0 := fun e => h (by exact_mod_cast e)
theorem IB.ql {b : Nat} {p : List Rat} (h : IB b p) : QL b p := fun i => by
  obtain ⟨D, h0, h1, h2⟩ := h
  obtain ⟨m, h3, h4⟩ := h2 i
  have hD := cast_ne h0
  have e : p.getD i 0 = Rat.divInt m D := by
    rw [Rat.divInt_eq_div]
    grind
  rw [e]
  exact .divInt h3 h1 h0
theorem IB.mono {a b : Nat} {p : List Rat} (h : IB a p) (k : a ≤ b) : IB b p := by
  obtain ⟨D, h0, h1, h2⟩ := h
  exact ⟨D, h0, pow_mono h1 k, fun i => by obtain ⟨m, h3, h4⟩ := h2 i; exact ⟨m, pow_mono h3 k, h4⟩⟩
theorem IB.pos {b : Nat} {p : List Rat} (h : IB b p) : 1 ≤ b := by
  obtain ⟨D, h0, h1, h2⟩ := h
  rcases Nat.eq_zero_or_pos b with z | z
  · subst z
    have : D.natAbs ≠ 0 := fun e => h0 (Int.natAbs_eq_zero.mp e)
    omega
  · exact z
theorem IB.nil {b : Nat} (h : 1 ≤ b) : IB b [] := ⟨1, by decide, Nat.lt_of_lt_of_le (by decide) (Nat.pow_le_pow_right (by decide) h), fun i => ⟨0, Nat.two_pow_pos _, by show (0 : Rat) * _ = _; rw [Rat.zero_mul]; rfl⟩⟩
theorem IB.sub {b : Nat} {p q : List Rat} (h : IB b p) (k : ∀ i, ∃ j, q.getD i 0 = p.getD j 0 ∨ q.getD i 0 = 0) : IB b q := by
  obtain ⟨D, h0, h1, h2⟩ := h
  refine ⟨D, h0, h1, fun i => ?_⟩
  obtain ⟨j, e | e⟩ := k i
  · rw [e]; exact h2 j
  · rw [e]; exact ⟨0, Nat.two_pow_pos _, by rw [Rat.zero_mul]; rfl⟩
theorem getD_takeR (p : List Rat) (k i : Nat) : (p.take k).getD i 0 = if i < k then p.getD i 0 else 0 := by
  rw [List.getD_eq_getElem?_getD, List.getElem?_take]
  split
  · rw [List.getD_eq_getElem?_getD]
  · rfl
theorem IB.take {b : Nat} {p : List Rat} (h : IB b p) (k : Nat) : IB b (p.take k) := h.sub fun i => ⟨i, by rw [getD_takeR]; split <;> simp⟩
theorem IB.trim {b : Nat} {p : List Rat} (h : IB b p) : IB b (De.trim p) := by
  obtain ⟨k, e⟩ := trim_pre p
  rw [e]
  exact h.take k
theorem den_mul (a : Rat) : a * (a.den : Rat) = a.num := by
  have h : (a.den : Rat) ≠ 0 := by exact_mod_cast a.den_nz
  have e := Rat.num_divInt_den a
  rw [Rat.divInt_eq_div, Rat.intCast_natCast] at e
  grind
theorem IB.cons {b n : Nat} {a : Rat} {p : List Rat} (ha : Qb n a) (hp : IB b p) : IB (b + n) (a :: p) := by
  obtain ⟨D, h0, h1, h2⟩ := hp
  have hd := den_ne a
  have ea : a * (a.den : Rat) = a.num := den_mul a
  refine ⟨D * a.den, Int.mul_ne_zero h0 hd, mul_lt h1 ha.den', fun i => ?_⟩
  cases i with
  | zero =>
    refine ⟨D * a.num, mul_lt h1 ha.num, ?_⟩
    show a * _ = _
    rw [Rat.intCast_mul, Rat.intCast_mul, ← ea]
    show a * ((D : Rat) * ((a.den : Int) : Rat)) = _
    rw [Rat.intCast_natCast]
    grind
  | succ i =>
    obtain ⟨m, h3, h4⟩ := h2 i
    refine ⟨m * a.den, mul_lt h3 ha.den', ?_⟩
    show p.getD i 0 * _ = _
    rw [Rat.intCast_mul, Rat.intCast_mul, ← h4]
    grind
theorem QL.ib {n : Nat} : ∀ {p : List Rat}, QL n p → IB (p.length * n + 1) p
  | [], _ => .nil (by omega)
  | a :: p, h => by
    have ih := QL.ib (p := p) (n := n) fun i => h (i + 1)
    refine (ih.cons (h 0)).mono ?_
    rw [List.length_cons, Nat.succ_mul]
    omega
theorem IB.neg {b : Nat} {p : List Rat} (h : IB b p) : IB b (pneg p) := by
  obtain ⟨D, h0, h1, h2⟩ := h
  refine ⟨D, h0, h1, fun i => ?_⟩
  obtain ⟨m, h3, h4⟩ := h2 i
  refine ⟨-m, by rw [Int.natAbs_neg]; exact h3, ?_⟩
  have e : (pneg p).getD i 0 = -p.getD i 0 := by
    unfold pneg
    rw [List.getD_eq_getElem?_getD, List.getD_eq_getElem?_getD, List.getElem?_map]
    cases p[i]? with
    | none => show (0 : Rat) = -0; grind
    | some x => rfl
  rw [e, Rat.intCast_neg, ← h4]
  grind
theorem psc_getD (c : Rat) (p : List Rat) (i : Nat) : (psc c p).getD i 0 = c * p.getD i 0 := by
  unfold psc
  rw [List.getD_eq_getElem?_getD, List.getD_eq_getElem?_getD, List.getElem?_map]
  cases p[i]? with
  | none => show (0 : Rat) = c * 0; grind
  | some x => rfl
theorem IB.psc {b n : Nat} {c : Rat} {p : List Rat} (hc : Qb n c) (h : IB b p) : IB (b + n) (De.psc c p) := by
  obtain ⟨D, h0, h1, h2⟩ := h
  have ec : c * (c.den : Rat) = c.num := den_mul c
  refine ⟨D * c.den, Int.mul_ne_zero h0 (den_ne c), mul_lt h1 hc.den', fun i => ?_⟩
  obtain ⟨m, h3, h4⟩ := h2 i
  refine ⟨m * c.num, mul_lt h3 hc.num, ?_⟩
  rw [psc_getD, Rat.intCast_mul, Rat.intCast_mul, ← ec, ← h4, Rat.intCast_natCast]
  grind
theorem padd_getD : ∀ (p q : List Rat) (i : Nat), (padd p q).getD i 0 = p.getD i 0 + q.getD i 0
  | [], q, i => by rw [padd]; show _ = (0 : Rat) + _; grind
  | a :: p, [], i => by show (a :: p).getD i 0 = _ + (0 : Rat); grind
  | a :: p, b :: q, 0 => rfl
  | a :: p, b :: q, i + 1 => padd_getD p q i
theorem IB.padd {a b : Nat} {p q : List Rat} (hp : IB a p) (hq : IB b q) : IB (a + b + 1) (De.padd p q) := by
  obtain ⟨D, h0, h1, h2⟩ := hp
  obtain ⟨E, k0, k1, k2⟩ := hq
  refine ⟨D * E, Int.mul_ne_zero h0 k0, pow_mono (mul_lt h1 k1) (by omega), fun i => ?_⟩
  obtain ⟨m, h3, h4⟩ := h2 i
  obtain ⟨n, k3, k4⟩ := k2 i
  refine ⟨m * E + n * D, add_lt (mul_lt h3 k1) (by rw [Nat.add_comm a b]; exact mul_lt k3 h1), ?_⟩
  rw [padd_getD, Rat.intCast_add, Rat.intCast_mul, Rat.intCast_mul, Rat.intCast_mul, ← h4, ← k4]
  grind
/-- products: the denominators multiply once -/
theorem mul_den {a b : Nat} {D E : Int} {q : List Rat} (k2 : ∀ i, ∃ m : Int, m.natAbs < 2 ^ b ∧ q.getD i 0 * (E : Rat) = (m : Rat)) :
    ∀ {p : List Rat}, (∀ i, ∃ m : Int, m.natAbs < 2 ^ a ∧ p.getD i 0 * (D : Rat) = (m : Rat)) → ∀ i, ∃ m : Int, m.natAbs ≤ p.length * 2 ^ (a + b) ∧ (De.pmul p q).getD i 0 * ((D * E : Int) : Rat) = (m : Rat)
  | [], _, i => ⟨0, Nat.zero_le _, by show (0 : Rat) * _ = _; rw [Rat.zero_mul]; rfl⟩
  | c :: p, h2, i => by
    obtain ⟨m0, h3, h4⟩ := h2 0
    obtain ⟨n, k3, k4⟩ := k2 i
    have h4' : c * (D : Rat) = (m0 : Rat) := h4
    have e : (De.pmul (c :: p) q).getD i 0 = c * q.getD i 0 + (0 :: De.pmul p q).getD i 0 := by rw [De.pmul, padd_getD, psc_getD]
    have t : ∃ m : Int, m.natAbs ≤ p.length * 2 ^ (a + b) ∧ (0 :: De.pmul p q).getD i 0 * ((D * E : Int) : Rat) = (m : Rat) := by
      cases i with
      | zero => exact ⟨0, Nat.zero_le _, by show (0 : Rat) * _ = _; rw [Rat.zero_mul]; rfl⟩
      | succ i => exact mul_den k2 (fun i => h2 (i + 1)) i
    obtain ⟨m1, h5, h6⟩ := t
    refine ⟨m0 * n + m1, ?_, ?_⟩
    · have a1 := Int.natAbs_add_le (m0 * n) m1
      have a2 := mul_lt h3 k3
      rw [List.length_cons, Nat.succ_mul]
      omega
    · rw [e, Rat.add_mul, h6, Rat.intCast_add, Rat.intCast_mul m0, ← h4', ← k4, Rat.intCast_mul]
      grind
theorem IB.pmul {a b : Nat} {p q : List Rat} (hp : IB a p) (hq : IB b q) : IB (a + b + p.length) (De.pmul p q) := by
  obtain ⟨D, h0, h1, h2⟩ := hp
  obtain ⟨E, k0, k1, k2⟩ := hq
  refine ⟨D * E, Int.mul_ne_zero h0 k0, pow_mono (mul_lt h1 k1) (by omega), fun i => ?_⟩
  obtain ⟨m, h3, h4⟩ := mul_den k2 h2 i
  refine ⟨m, Nat.lt_of_le_of_lt h3 ?_, h4⟩
  rw [Nat.add_comm (a + b), Nat.pow_add 2 p.length (a + b)]
  exact Nat.mul_lt_mul_of_pos_right Nat.lt_two_pow_self (Nat.two_pow_pos _)
theorem IB.pm {a b : Nat} {p q : List Rat} (hp : IB a p) (hq : IB b q) : IB (a + b + p.length) (De.pm p q) := (hp.pmul hq).trim
/-- one step of the division -/
theorem IB.step {a b k : Nat} {o d' : List Rat} {m : Rat} (hm : m ≠ 0) (ho : IB a o) (hd : IB b (d' ++ [m])) (hk : k + (d' ++ [m]).length ≤ o.length) :
    IB (a + b + 1) (adds (-(o.getD (k + d'.length) 0 * m⁻¹)) k o (d' ++ [m])) := by
  obtain ⟨D, h0, h1, h2⟩ := ho
  obtain ⟨E, k0, k1, k2⟩ := hd
  have gm : (d' ++ [m]).getD d'.length 0 = m := by
    rw [List.getD_eq_getElem?_getD, List.getElem?_append_right (Nat.le_refl _), Nat.sub_self]
    rfl
  obtain ⟨l, k3, k4⟩ := k2 d'.length
  rw [gm] at k4
  obtain ⟨t, h3, h4⟩ := h2 (k + d'.length)
  have hE := cast_ne k0
  have hD := cast_ne h0
  have l0 : l ≠ 0 := by
    intro z
    subst z
    rcases Rat.mul_eq_zero.1 (show m * (E : Rat) = 0 from k4) with z | z
    · exact hm z
    · exact hE z
  refine ⟨D * l, Int.mul_ne_zero h0 l0, pow_mono (mul_lt h1 k3) (by omega), fun i => ?_⟩
  rw [adds_get _ _ _ _ _ hk]
  obtain ⟨n, h5, h6⟩ := h2 i
  split
  · obtain ⟨e, k5, k6⟩ := k2 (i - k)
    refine ⟨n * l - t * e, sub_lt (mul_lt h5 k3) (mul_lt h3 k5), ?_⟩
    rw [Rat.intCast_sub, Rat.intCast_mul, Rat.intCast_mul, Rat.intCast_mul, ← h6, ← k6, ← k4, ← h4]
    grind
  · refine ⟨n * l, pow_mono (mul_lt h5 k3) (by omega), ?_⟩
    rw [Rat.add_zero, Rat.intCast_mul, Rat.intCast_mul, ← h6]
    grind
theorem IB.quot {a b k : Nat} {o d' : List Rat} {m : Rat} (ho : IB a o) (hd : IB b (d' ++ [m])) : Qb (a + b) (o.getD k 0 * m⁻¹) :=
  (ho.ql k).mul ((hd.ql.mem m (by simp)).inv hd.pos)
/-- the quotient over a common denominator: D l^K -/
theorem quot_den {b : Nat} {d' : List Rat} {m : Rat} {E l : Int} (hm : m ≠ 0) (k0 : E ≠ 0) (k1 : E.natAbs < 2 ^ b) (k3 : l.natAbs < 2 ^ b) (k4 : m * (E : Rat) = (l : Rat)) (k2 : ∀ i, ∃ n : Int, n.natAbs < 2 ^ b ∧ (d' ++ [m]).getD i 0 * (E : Rat) = (n : Rat)) (l0 : l ≠ 0) :
    ∀ (K : Nat) (o : List Rat) (D : Int) (a : Nat), D ≠ 0 → (∀ i, ∃ n : Int, n.natAbs < 2 ^ a ∧ o.getD i 0 * (D : Rat) = (n : Rat)) → (∀ i, K + d'.length ≤ i → o.getD i 0 = 0) → (K = 0 ∨ K + d'.length ≤ o.length) →
    ∃ s R : List Rat, s.length = K ∧ (∀ i, d'.length ≤ i → R.getD i 0 = 0) ∧ (∀ x, evl o x = evl s x * evl (d' ++ [m]) x + evl R x) ∧ (∀ i, ∃ n : Int, n.natAbs < 2 ^ (a + K * (b + 1)) ∧ R.getD i 0 * ((D * l ^ K : Int) : Rat) = (n : Rat)) ∧ (∀ i, ∃ n : Int, n.natAbs < 2 ^ (a + K * (b + 1) + b) ∧ s.getD i 0 * ((D * l ^ K : Int) : Rat) = (n : Rat))
  | 0, o, D, a, hD, ho, z, _ => ⟨[], o, rfl, fun i hi => z i (by omega), fun x => by rw [ev_nil]; grind, fun i => by
      obtain ⟨n, h1, h2⟩ := ho i
      exact ⟨n, by rw [Nat.zero_mul]; exact h1, by rw [Int.pow_zero, Int.mul_one]; exact h2⟩, fun i => ⟨0, Nat.two_pow_pos _, by show (0 : Rat) * _ = _; rw [Rat.zero_mul]; rfl⟩⟩
  | K + 1, o, D, a, hD, ho, z, lo => by
    have ld : (d' ++ [m]).length = d'.length + 1 := List.length_append
    have lo' : K + 1 + d'.length ≤ o.length := by omega
    have hE := cast_ne k0
    have hDr := cast_ne hD
    obtain ⟨t, h3, h4⟩ := ho (K + d'.length)
    generalize hf : o.getD (K + d'.length) 0 * m⁻¹ = f
    have hlr : (l : Rat) ≠ 0 := cast_ne l0
    have hfE : f * ((D * l : Int) : Rat) = ((t * E : Int) : Rat) := by
      rw [← hf, Rat.intCast_mul, Rat.intCast_mul, ← h4, ← k4]
      grind
    obtain ⟨s, R, hs, hR, he, qR, qs⟩ := quot_den hm k0 k1 k3 k4 k2 l0 K (adds (-f) K o (d' ++ [m])) (D * l) (a + b + 1) (Int.mul_ne_zero hD l0) (fun i => by
      rw [adds_get _ _ _ _ _ (by omega)]
      obtain ⟨n, h5, h6⟩ := ho i
      split
      · obtain ⟨e, k5, k6⟩ := k2 (i - K)
        refine ⟨n * l - t * e, sub_lt (mul_lt h5 k3) (mul_lt h3 k5), ?_⟩
        rw [← hf, Rat.intCast_sub, Rat.intCast_mul, Rat.intCast_mul, Rat.intCast_mul, ← h6, ← k6, ← k4, ← h4]
        grind
      · refine ⟨n * l, pow_mono (mul_lt h5 k3) (by omega), ?_⟩
        rw [Rat.add_zero, Rat.intCast_mul, Rat.intCast_mul, ← h6]
        grind) (fun i hi => by
      rw [adds_get _ _ _ _ _ (by omega), ld]
      by_cases q : i = K + d'.length
      · subst q
        rw [if_pos (by omega), show K + d'.length - K = d'.length by omega, List.getD_eq_getElem?_getD (l := d' ++ [m]), List.getElem?_append_right (Nat.le_refl _), Nat.sub_self]
        show _ + -f * m = 0
        rw [← hf]
        grind
      · rw [if_neg (by omega), z i (by omega), Rat.add_zero]) (.inr (by rw [adds_len]; omega))
    have eD : D * l ^ (K + 1) = D * l * l ^ K := by rw [Int.pow_succ]; grind
    have eb : a + b + 1 + K * (b + 1) = a + (K + 1) * (b + 1) := by rw [Nat.succ_mul]; omega
    rw [eb] at qR qs
    refine ⟨s ++ [f], R, by rw [List.length_append, hs]; rfl, hR, fun x => ?_, fun i => by rw [eD]; exact qR i, fun i => ?_⟩
    · have := he x
      rw [ev_adds _ _ _ _ _ (by omega)] at this
      rw [ev_append s, ev_cons, ev_nil, hs]
      grind
    · rw [eD]
      rcases Nat.lt_trichotomy i s.length with hi | hi | hi
      · rw [List.getD_eq_getElem?_getD, List.getElem?_append_left hi, ← List.getD_eq_getElem?_getD]
        exact qs i
      · subst hi
        rw [List.getD_eq_getElem?_getD, List.getElem?_append_right (Nat.le_refl _), Nat.sub_self]
        refine ⟨t * E * l ^ K, ?_, ?_⟩
        · have p1 : (t * E).natAbs < 2 ^ (a + b) := mul_lt h3 k1
          have p2 : (l ^ K).natAbs ≤ 2 ^ (K * b) := by
            rw [Int.natAbs_pow, Nat.mul_comm, Nat.pow_mul]
            exact Nat.pow_le_pow_left (Nat.le_of_lt k3) K
          rw [Int.natAbs_mul]
          refine Nat.lt_of_lt_of_le (Nat.mul_lt_mul_of_lt_of_le p1 p2 (Nat.two_pow_pos _)) ?_
          rw [← Nat.pow_add]
          refine Nat.pow_le_pow_right (by decide) ?_
          rw [Nat.succ_mul, Nat.mul_succ]
          omega
        · show f * _ = _
          rw [Rat.intCast_mul (D * l), ← Rat.mul_assoc, hfE, ← Rat.intCast_mul]
      · rw [List.getD_eq_getElem?_getD, List.getElem?_eq_none (by rw [List.length_append, List.length_singleton]; omega)]
        exact ⟨0, Nat.two_pow_pos _, by show (0 : Rat) * _ = _; rw [Rat.zero_mul]; rfl⟩
set_option Elab.async false
set_option linter.all false
set_option maxRecDepth 100000
set_option maxHeartbeats 1000000
/-! ### polynomials: greatest common divisors (no program in sight) -/
theorem div_ib {p d : List Rat} {a b : Nat} (hp : Tr p) (hd : Tr d) (hdn : d ≠ []) (qp : IB a p) (qd : IB b d) :
    ∃ s r : List Rat, Tr s ∧ Tr r ∧ r.length < d.length ∧ (∀ x, evl p x = evl s x * evl d x + evl r x) ∧ s.length = p.length + 1 - d.length ∧ IB (a + s.length * (b + 1)) r ∧ IB (a + s.length * (b + 1) + b) s := by
  obtain ⟨d', m, rfl, hm⟩ := hd.split hdn
  have ld : (d' ++ [m]).length = d'.length + 1 := List.length_append
  obtain ⟨D, h0, h1, h2⟩ := qp
  obtain ⟨E, k0, k1, k2⟩ := qd
  have gm : (d' ++ [m]).getD d'.length 0 = m := by
    rw [List.getD_eq_getElem?_getD, List.getElem?_append_right (Nat.le_refl _), Nat.sub_self]
    rfl
  obtain ⟨l, k3, k4⟩ := k2 d'.length
  rw [gm] at k4
  have hE := cast_ne k0
  have l0 : l ≠ 0 := by
    intro z
    subst z
    rcases Rat.mul_eq_zero.1 (show m * (E : Rat) = 0 from k4) with z | z
    · exact hm z
    · exact hE z
  generalize hK : p.length + 1 - (d' ++ [m]).length = K
  obtain ⟨s, R, hs, hR, he, qR, qs⟩ := quot_den hm k0 k1 k3 k4 k2 l0 K p D a h0 h2 (fun i hi => by rw [List.getD_eq_getElem?_getD, List.getElem?_eq_none (by omega)]; rfl) (by omega)
  have h3 : (trim (R.take d'.length)).length < (d' ++ [m]).length := by
    have := trim_len (R.take d'.length)
    rw [List.length_take] at this
    omega
  have h4 : ∀ x, evl p x = evl (trim s) x * evl (d' ++ [m]) x + evl (trim (R.take d'.length)) x := fun x => by rw [ev_trim, ev_trim, ev_take_zero hR, he]
  have h5 := (DivSt.start hp (trim_tr _) hd hdn (trim_tr _) h3 h4).2
  rw [hK] at h5
  have hD : D * l ^ K ≠ 0 := Int.mul_ne_zero h0 (Int.pow_ne_zero l0)
  have hDs : (D * l ^ K).natAbs < 2 ^ (a + K * (b + 1)) := by
    have p2 : (l ^ K).natAbs ≤ 2 ^ (K * b) := by
      rw [Int.natAbs_pow, Nat.mul_comm, Nat.pow_mul]
      exact Nat.pow_le_pow_left (Nat.le_of_lt k3) K
    rw [Int.natAbs_mul]
    refine Nat.lt_of_lt_of_le (Nat.mul_lt_mul_of_lt_of_le h1 p2 (Nat.two_pow_pos _)) ?_
    rw [← Nat.pow_add]
    refine Nat.pow_le_pow_right (by decide) ?_
    rw [Nat.mul_succ]
    omega
  have iR : IB (a + K * (b + 1)) R := ⟨_, hD, hDs, qR⟩
  have is : IB (a + K * (b + 1) + b) s := ⟨_, hD, pow_mono hDs (by omega), qs⟩
  refine ⟨trim s, trim (R.take d'.length), trim_tr _, trim_tr _, h3, h4, h5, ?_, ?_⟩
  · rw [h5]; exact (iR.take _).trim
  · rw [h5]; exact is.trim
-- divisors
def Dv (a b : List Rat) : Prop := ∃ s, ∀ x, evl b x = evl s x * evl a x
theorem Dv.refl (a : List Rat) : Dv a a := ⟨[1], fun x => by rw [ev_cons, ev_nil]; grind⟩
theorem Dv.zero (a : List Rat) : Dv a [] := ⟨[], fun x => by rw [ev_nil]; grind⟩
theorem Dv.trans {a b c : List Rat} (h : Dv a b) (k : Dv b c) : Dv a c := by
  obtain ⟨s, e⟩ := h
  obtain ⟨t, f⟩ := k
  exact ⟨pm t s, fun x => by rw [f, e, ev_pm]; grind⟩
theorem Dv.lin {d p q r u w : List Rat} (h : Dv d p) (k : Dv d q) (e : ∀ x, evl r x = evl u x * evl p x + evl w x * evl q x) : Dv d r := by
  obtain ⟨s, f⟩ := h
  obtain ⟨t, g⟩ := k
  exact ⟨padd (pm u s) (pm w t), fun x => by rw [e, f, g, ev_padd, ev_pm, ev_pm]; grind⟩
theorem Dv.of_eq {d p q : List Rat} (h : Dv d p) (e : ∀ x, evl q x = evl p x) : Dv d q := by
  obtain ⟨s, f⟩ := h
  exact ⟨s, fun x => by rw [e, f]⟩
theorem Dv.ne {d p : List Rat} (h : Dv d p) (hp : Tr p) (hn : p ≠ []) : ¬ ∀ x, evl d x = 0 := fun z => by
  obtain ⟨s, f⟩ := h
  exact hn (ev_inj hp (fun a h => by simp at h) fun x => by rw [f, z, ev_nil]; grind)
theorem Dv.len {d p : List Rat} (h : Dv d p) (hd : Tr d) (hp : Tr p) (hn : p ≠ []) : d ≠ [] ∧ d.length ≤ p.length ∧ ∃ s, Tr s ∧ s ≠ [] ∧ (∀ x, evl p x = evl s x * evl d x) ∧ p.length + 1 = s.length + d.length := by
  have hdn : d ≠ [] := fun e => h.ne hp hn fun x => by rw [e, ev_nil]
  obtain ⟨s, f⟩ := h
  have f' : ∀ x, evl p x = evl (trim s) x * evl d x := fun x => by rw [ev_trim, f]
  have hs : trim s ≠ [] := fun e => hn (ev_inj hp (fun a h => by simp at h) fun x => by rw [f', e, ev_nil]; grind)
  have := mul_len (trim_tr s) hs hd hdn hp f'
  have h0 : (trim s).length ≠ 0 := fun e => hs (List.length_eq_zero_iff.mp e)
  exact ⟨hdn, by omega, trim s, trim_tr s, hs, f', this⟩
structure IsG (g p q : List Rat) : Prop where
  l : Dv g p
  r : Dv g q
  max : ∀ d, Dv d p → Dv d q → Dv d g
theorem IsG.symm {g p q : List Rat} (h : IsG g p q) : IsG g q p := ⟨h.r, h.l, fun d a b => h.max d b a⟩
def Mon (g : List Rat) : Prop := ∃ g', g = g' ++ [1]
theorem Mon.tr {g : List Rat} (h : Mon g) : Tr g := by
  obtain ⟨g', rfl⟩ := h
  intro a e
  simp at e
  subst e
  decide
theorem Mon.ne {g : List Rat} (h : Mon g) : g ≠ [] := by
  obtain ⟨g', rfl⟩ := h
  simp
theorem len_one {s : List Rat} (h : s.length = 1) : ∃ c, s = [c] := by
  match s, h with
  | [c], _ => exact ⟨c, rfl⟩
theorem mon_unique {g g' : List Rat} (h1 : Dv g g') (h2 : Dv g' g) (m : Mon g) (m' : Mon g') : g = g' := by
  obtain ⟨_, _, s, hs, hsn, e, l⟩ := h1.len m.tr m'.tr m'.ne
  obtain ⟨_, l2, _⟩ := h2.len m'.tr m.tr m.ne
  have s0 : s.length ≠ 0 := fun e => hsn (List.length_eq_zero_iff.mp e)
  obtain ⟨c, rfl⟩ := len_one (s := s) (by omega)
  obtain ⟨a, rfl⟩ := m
  obtain ⟨a', rfl⟩ := m'
  have e2 : a' ++ [1] = psc c (a ++ [1]) := by
    refine ev_inj_len ?_ fun x => ?_
    · unfold psc
      rw [List.length_map]
      simp only [List.length_append, List.length_singleton] at l ⊢
      omega
    · rw [e, ev_psc, ev_cons, ev_nil]
      grind
  have e3 : psc c (a ++ [1]) = psc c a ++ [c * 1] := by unfold psc; rw [List.map_append]; rfl
  rw [e3] at e2
  have e4 := List.append_inj' e2 rfl
  have c1 : c = 1 := by have := List.cons.inj e4.2; grind
  refine ev_inj_len ?_ fun x => ?_
  · simp only [List.length_append, List.length_singleton] at l ⊢
    omega
  · rw [e, c1, ev_cons, ev_nil]
    grind
theorem IsG.unique {g g' p q : List Rat} (h : IsG g p q) (h' : IsG g' p q) (m : Mon g) (m' : Mon g') : g = g' := mon_unique (h'.max _ h.l h.r) (h.max _ h'.l h'.r) m m'
def mon (p : List Rat) : List Rat := match p.getLast? with
  | some l => psc l⁻¹ p
  | none => []
theorem mon_nil : mon [] = [] := rfl
theorem mon_cat (p : List Rat) (l : Rat) : mon (p ++ [l]) = psc l⁻¹ (p ++ [l]) := by unfold mon; rw [List.getLast?_concat]
theorem mon_of {p : List Rat} (hp : Tr p) (hn : p ≠ []) : ∃ p' l, p = p' ++ [l] ∧ l ≠ 0 ∧ mon p = psc l⁻¹ p ∧ Mon (mon p) ∧ (∀ x, evl (mon p) x = l⁻¹ * evl p x) := by
  obtain ⟨p', l, rfl, hl⟩ := hp.split hn
  refine ⟨p', l, rfl, hl, mon_cat _ _, ⟨psc l⁻¹ p', ?_⟩, fun x => by rw [mon_cat, ev_psc]⟩
  rw [mon_cat]
  unfold psc
  rw [List.map_append]
  congr 1
  show [l⁻¹ * l] = [1]
  rw [Rat.inv_mul_cancel _ hl]
theorem Dv.scale {d p q : List Rat} {c : Rat} (h : Dv d p) (e : ∀ x, evl q x = c * evl p x) : Dv d q := by
  obtain ⟨s, f⟩ := h
  exact ⟨psc c s, fun x => by rw [e, f, ev_psc]; grind⟩
theorem Dv.unscale {d d' p : List Rat} {c : Rat} (hc : c ≠ 0) (h : Dv d p) (e : ∀ x, evl d' x = c * evl d x) : Dv d' p := by
  obtain ⟨s, f⟩ := h
  exact ⟨psc c⁻¹ s, fun x => by rw [f, ev_psc, e]; grind⟩
theorem IsG.scale {g g' p q : List Rat} {c : Rat} (hc : c ≠ 0) (h : IsG g p q) (e : ∀ x, evl g' x = c * evl g x) : IsG g' p q :=
  ⟨h.l.unscale hc e, h.r.unscale hc e, fun d a b => (h.max d a b).scale e⟩
-- Euclid's loop
structure Eu (p q f s u v : List Rat) : Prop where
  a : ∃ w, ∀ x, evl f x = evl u x * evl p x + evl w x * evl q x
  b : ∃ w, ∀ x, evl s x = evl v x * evl p x + evl w x * evl q x
  d : ∀ d, Dv d f → Dv d s → Dv d p ∧ Dv d q
theorem Eu.start (p q : List Rat) : Eu p q p q [1] [] :=
  ⟨⟨[], fun x => by rw [ev_cons, ev_nil]; grind⟩, ⟨[1], fun x => by rw [ev_cons, ev_nil]; grind⟩, fun d a b => ⟨a, b⟩⟩
theorem Eu.step {p q f s u v t r u' : List Rat} (h : Eu p q f s u v) (e : ∀ x, evl f x = evl t x * evl s x + evl r x) (e' : ∀ x, evl u' x = evl u x - evl t x * evl v x) : Eu p q s r v u' := by
  obtain ⟨w, h1⟩ := h.a
  obtain ⟨w', h2⟩ := h.b
  refine ⟨h.b, ⟨padd w (pneg (pm t w')), fun x => ?_⟩, fun d a b => h.d d ?_ a⟩
  · rw [ev_padd, ev_pneg, ev_pm, e']
    have := e x
    rw [h1, h2] at this
    grind
  · exact a.lin b (u := t) (w := [1]) fun x => by rw [e, ev_cons, ev_nil]; grind
theorem Eu.final {p q f u v : List Rat} (h : Eu p q f [] u v) : IsG f p q := by
  obtain ⟨w, h1⟩ := h.a
  obtain ⟨a, b⟩ := h.d f (Dv.refl f) (Dv.zero f)
  exact ⟨a, b, fun d a b => a.lin b h1⟩
theorem Eu.len {p q f s u v h : List Rat} (k : Eu p q f s u v) (h1 : Dv h p) (h2 : Dv h q) (ht : Tr h) (hs : Tr s) (hn : s ≠ []) : h.length ≤ s.length := by
  obtain ⟨w, e⟩ := k.b
  exact ((h1.lin h2 e).len ht hs hn).2.1
theorem Eu.lenf {p q f s u v h : List Rat} (k : Eu p q f s u v) (h1 : Dv h p) (h2 : Dv h q) (ht : Tr h) (hs : Tr f) (hn : f ≠ []) : h.length ≤ f.length := by
  obtain ⟨w, e⟩ := k.a
  exact ((h1.lin h2 e).len ht hs hn).2.1
-- sizes in it
structure Sz (A L a g e : Nat) : Prop where
  a : (a + 2) * 3 ^ e ≤ A * 3 ^ L
  g : g * 3 ^ e ≤ 4 * (A * 3 ^ L)
theorem three_pow (K : Nat) (h : 3 ≤ K) : 2 * K + 2 ≤ 3 ^ (K - 1) := by
  induction K with
  | zero => omega
  | succ K ih =>
    by_cases e : K = 2
    · subst e; decide
    · have := ih (by omega)
      rw [show K + 1 - 1 = (K - 1) + 1 by omega, Nat.pow_succ]
      omega
theorem Sz.step {A L a g e e' K : Nat} (h : Sz A L a g e) (h1 : K ≤ 2 → e' + 1 ≤ e) (h2 : 3 ≤ K → e' + (K - 1) ≤ e) : Sz A L (a + K * (a + 1)) (2 * g + (K + 2) * (a + 1) + K) e' := by
  obtain ⟨T, hT, hT3, hTK, hTK2⟩ : ∃ T, T * 3 ^ e' ≤ 3 ^ e ∧ 3 ≤ T ∧ K + 1 ≤ T ∧ (K ≤ 2 ∨ 2 * K + 2 ≤ T) := by
    by_cases hK : K ≤ 2
    · refine ⟨3, ?_, by omega, by omega, .inl hK⟩
      have := Nat.pow_le_pow_right (show 0 < 3 by decide) (h1 hK)
      rw [Nat.pow_succ] at this
      omega
    · have t := three_pow K (by omega)
      refine ⟨3 ^ (K - 1), ?_, by omega, by omega, .inr t⟩
      rw [← Nat.pow_add]
      exact Nat.pow_le_pow_right (by decide) (by have := h2 (by omega); omega)
  have ka : (a + 2) * (T * 3 ^ e') ≤ A * 3 ^ L := Nat.le_trans (Nat.mul_le_mul_left _ hT) h.a
  have kg : g * (T * 3 ^ e') ≤ 4 * (A * 3 ^ L) := Nat.le_trans (Nat.mul_le_mul_left _ hT) h.g
  have m1 : (K + 1) * a ≤ T * a := Nat.mul_le_mul_right _ hTK
  have m3 : 3 * g ≤ T * g := Nat.mul_le_mul_right _ hT3
  rw [Nat.succ_mul] at m1
  constructor
  · refine Nat.le_trans ?_ ka
    rw [← Nat.mul_assoc]
    refine Nat.mul_le_mul_right _ ?_
    rw [Nat.mul_succ, Nat.add_mul, Nat.mul_comm a T]
    omega
  · have key : 3 * (2 * g + (K + 2) * (a + 1) + K) ≤ 2 * (g * T) + 4 * ((a + 2) * T) := by
      rw [Nat.mul_succ, Nat.add_mul, Nat.mul_comm g T, Nat.add_mul a 2 T, Nat.mul_comm a T]
      rcases hTK2 with q | q
      · have m2 : K * a ≤ 2 * a := Nat.mul_le_mul_right _ q
        have m4 : 3 * a ≤ T * a := Nat.mul_le_mul_right _ hT3
        omega
      · have m2 : (2 * K + 2) * a ≤ T * a := Nat.mul_le_mul_right _ q
        rw [Nat.add_mul, Nat.mul_assoc] at m2
        omega
    have key2 := Nat.mul_le_mul_right (3 ^ e') key
    generalize 2 * g + (K + 2) * (a + 1) + K = X at key2 ⊢
    rw [Nat.mul_assoc 3, Nat.add_mul, Nat.mul_assoc 2, Nat.mul_assoc g, Nat.mul_assoc 4, Nat.mul_assoc (a + 2)] at key2
    omega
theorem Sz.fin {A L a g e : Nat} (h : Sz A L a g e) (hl : L ≤ e) : a + 2 ≤ A ∧ g ≤ 4 * A := by
  have h3 : 3 ^ L ≤ 3 ^ e := Nat.pow_le_pow_right (by decide) hl
  have h0 : 0 < 3 ^ L := Nat.pow_pos (by decide)
  constructor
  · exact Nat.le_of_mul_le_mul_right (Nat.le_trans (Nat.mul_le_mul_left _ h3) h.a) h0
  · refine Nat.le_of_mul_le_mul_right (c := 3 ^ L) ?_ h0
    rw [Nat.mul_assoc]
    exact Nat.le_trans (Nat.mul_le_mul_left _ h3) h.g
set_option Elab.async false
set_option linter.all false
set_option maxRecDepth 100000
set_option maxHeartbeats 1000000
/-! ### rows of integers (no program in sight) -/
def iv (p : List Int) : List Rat := p.map fun (n : Int) => (n : Rat)
theorem iv_len (p : List Int) : (iv p).length = p.length := List.length_map _
theorem iv_getD (p : List Int) (i : Nat) : (iv p).getD i 0 = ((p.getD i 0 : Int) : Rat) := by
  unfold iv
  rw [List.getD_eq_getElem?_getD, List.getD_eq_getElem?_getD, List.getElem?_map]
  cases p[i]? with
  | none => rfl
  | some x => rfl
/-- no zero at the end -/
def TrI (p : List Int) : Prop := ∀ a, p.getLast? = some a → a ≠ 0
theorem TrI.tr {p : List Int} (h : TrI p) : Tr (iv p) := fun a e => by
  unfold iv at e
  rw [List.getLast?_map] at e
  cases q : p.getLast? with
  | none => rw [q] at e; simp at e
  | some b =>
    rw [q] at e
    have e2 : (b : Rat) = a := by simpa using e
    rw [← e2]
    exact cast_ne (h b q)
def NB (b : Nat) (p : List Int) : Prop := ∀ i, (p.getD i 0).natAbs < 2 ^ b
theorem NB.mono {a b : Nat} {p : List Int} (h : NB a p) (k : a ≤ b) : NB b p := fun i => pow_mono (h i) k
theorem NB.ib {b : Nat} {p : List Int} (hb : 1 ≤ b) (h : NB b p) : IB b (iv p) := ⟨1, by decide, Nat.lt_of_lt_of_le (by decide) (Nat.pow_le_pow_right (by decide) hb), fun i => ⟨p.getD i 0, h i, by rw [iv_getD]; show _ * ((1 : Int) : Rat) = _; rw [Rat.intCast_one, Rat.mul_one]⟩⟩
def trimI : List Int → List Int
  | [] => []
  | a :: p => match trimI p with
    | [] => if a = 0 then [] else [a]
    | b :: t => a :: b :: t
theorem trimI_tr : ∀ p : List Int, TrI (trimI p)
  | [] => fun a h => by simp [trimI] at h
  | a :: p => by
    have ih := trimI_tr p
    rw [trimI]
    split
    · split
      · intro b h; simp at h
      · intro b h
        simp at h
        subst h
        assumption
    · rename_i b t e
      rw [e] at ih
      intro c h
      rw [List.getLast?_cons] at h
      have e3 : (b :: t).getLast? = some ((b :: t).getLast (by simp)) := List.getLast?_eq_some_getLast (by simp)
      rw [e3] at h
      refine ih c ?_
      rw [e3, ← h]
      rfl
theorem trimI_pre : ∀ p : List Int, ∃ k, k ≤ p.length ∧ trimI p = p.take k ∧ ∀ i, k ≤ i → p.getD i 0 = 0
  | [] => ⟨0, Nat.le_refl _, rfl, fun i _ => rfl⟩
  | a :: p => by
    obtain ⟨k, hk, e, z⟩ := trimI_pre p
    rw [trimI]
    split
    · rename_i e2
      have z' : ∀ i, p.getD i 0 = 0 := by
        intro i
        rw [e] at e2
        rcases Nat.lt_or_ge i k with q | q
        · have h0 : p.length = 0 ∨ k = 0 := by
            have := congrArg List.length e2
            rw [List.length_take, List.length_nil] at this
            omega
          rcases h0 with h0 | h0
          · rw [List.length_eq_zero_iff.mp h0]; rfl
          · omega
        · exact z i q
      split
      · rename_i h
        refine ⟨0, Nat.zero_le _, rfl, fun i _ => ?_⟩
        cases i with
        | zero => exact h
        | succ i => exact z' i
      · refine ⟨1, by simp, rfl, fun i hi => ?_⟩
        cases i with
        | zero => omega
        | succ i => exact z' i
    · rename_i b t e2
      refine ⟨k + 1, by simp; exact hk, by rw [List.take_succ_cons, ← e, e2], fun i hi => ?_⟩
      cases i with
      | zero => omega
      | succ i => exact z i (by omega)
theorem evi_take {p : List Int} {n : Nat} (h : ∀ i, n ≤ i → p.getD i 0 = 0) (x : Rat) : evl (iv (p.take n)) x = evl (iv p) x := by
  have e : iv (p.take n) = (iv p).take n := List.map_take
  rw [e, ev_take_zero fun i hi => by rw [iv_getD, h i hi]; rfl]
theorem evi_trim (p : List Int) (x : Rat) : evl (iv (trimI p)) x = evl (iv p) x := by
  obtain ⟨k, _, e, z⟩ := trimI_pre p
  rw [e, evi_take z]
theorem getD_takeI (p : List Int) (k i : Nat) : (p.take k).getD i 0 = if i < k then p.getD i 0 else 0 := by
  rw [List.getD_eq_getElem?_getD, List.getElem?_take]
  split
  · rw [List.getD_eq_getElem?_getD]
  · rfl
theorem NB.take {b : Nat} {p : List Int} (h : NB b p) (k : Nat) : NB b (p.take k) := fun i => by
  rw [getD_takeI]
  split
  · exact h i
  · exact Nat.two_pow_pos b
/-- the row cut where the zeros begin -/
theorem take_trimI {p : List Int} {a : Nat} (h : ∀ j, a ≤ j → p.getD j 0 = 0) (hz : a = 0 ∨ p.getD (a - 1) 0 ≠ 0) (ha : a ≤ p.length) : trimI p = p.take a := by
  obtain ⟨k, hk, e, z⟩ := trimI_pre p
  rw [e]
  have t := trimI_tr p
  rw [e] at t
  have : k = a := by
    rcases Nat.lt_trichotomy k a with q | q | q
    · exfalso
      rcases hz with hz | hz
      · omega
      · exact hz (z _ (by omega))
    · exact q
    · exfalso
      have l : (p.take k).length = k := by rw [List.length_take]; omega
      refine t 0 ?_ rfl
      rw [List.getLast?_eq_getElem?, l, List.getElem?_take_of_lt (by omega), List.getElem?_eq_getElem (by omega)]
      have := h (k - 1) (by omega)
      rw [List.getD_eq_getElem?_getD, List.getElem?_eq_getElem (by omega)] at this
      exact congrArg some this
  rw [this]
-- p[k + j] - f * c for every c of d
def subsI (f : Int) : Nat → List Int → List Int → List Int
  | _, p, [] => p
  | k, p, c :: d => subsI f (k + 1) (p.set k (p.getD k 0 - f * c)) d
theorem subsI_len (f : Int) : ∀ (d : List Int) (k : Nat) (p : List Int), (subsI f k p d).length = p.length
  | [], _, _ => rfl
  | c :: d, k, p => by rw [subsI, subsI_len f d, List.length_set]
theorem getD_setI (p : List Int) (i j : Nat) (c : Int) (h : i < p.length) : (p.set i c).getD j 0 = if i = j then c else p.getD j 0 := by
  rw [List.getD_eq_getElem?_getD, List.getD_eq_getElem?_getD, List.getElem?_set]
  split
  · rename_i e
    subst e
    first | rfl | (rw [if_pos h]; rfl)
  · rfl
theorem subsI_get (f : Int) : ∀ (d : List Int) (k : Nat) (p : List Int) (i : Nat), k + d.length ≤ p.length → (subsI f k p d).getD i 0 = p.getD i 0 - (if k ≤ i ∧ i < k + d.length then f * d.getD (i - k) 0 else 0)
  | [], k, p, i, _ => by
    rw [subsI, if_neg (by rw [List.length_nil]; omega), Int.sub_zero]
  | c :: d, k, p, i, h => by
    rw [List.length_cons] at h
    rw [subsI, subsI_get f d (k + 1) _ i (by rw [List.length_set]; omega), getD_setI _ _ _ _ (by omega), List.length_cons]
    by_cases e : k = i
    · subst e
      rw [if_pos rfl, if_neg (by omega), if_pos (by omega), Nat.sub_self, Int.sub_zero]
      rfl
    · rw [if_neg e]
      by_cases q : k + 1 ≤ i ∧ i < k + 1 + d.length
      · rw [if_pos q, if_pos (by omega)]
        congr 2
        rw [show i - k = (i - (k + 1)) + 1 by omega, List.getD_cons_succ]
      · rw [if_neg q, if_neg (by omega)]
theorem subsI_snoc (f c : Int) : ∀ (d : List Int) (k : Nat) (p : List Int), subsI f k p (d ++ [c]) = (subsI f k p d).set (k + d.length) ((subsI f k p d).getD (k + d.length) 0 - f * c)
  | [], k, p => rfl
  | b :: d, k, p => by
    rw [List.cons_append, subsI, subsI_snoc f c d (k + 1), List.length_cons, subsI, show k + 1 + d.length = k + (d.length + 1) by omega]
theorem subsI_take {f : Int} {k : Nat} {p d : List Int} {i : Nat} (hi : i < d.length) : subsI f k p (d.take (i + 1)) = (subsI f k p (d.take i)).set (k + i) ((subsI f k p (d.take i)).getD (k + i) 0 - f * d.getD i 0) := by
  have e : d.take (i + 1) = d.take i ++ [d.getD i 0] := by
    rw [List.take_succ_eq_append_getElem hi, List.getD_eq_getElem?_getD, List.getElem?_eq_getElem hi]
    rfl
  have l : (d.take i).length = i := by rw [List.length_take]; omega
  rw [e, subsI_snoc, l]
theorem iv_set (p : List Int) (i : Nat) (c : Int) : iv (p.set i c) = (iv p).set i (c : Rat) := by unfold iv; rw [List.map_set]
theorem iv_subs (f : Int) : ∀ (d : List Int) (k : Nat) (p : List Int), iv (subsI f k p d) = adds (-(f : Rat)) k (iv p) (iv d)
  | [], _, _ => rfl
  | c :: d, k, p => by
    rw [subsI, iv_subs f d, iv_set]
    show _ = adds (-(f : Rat)) (k + 1) ((iv p).set k ((iv p).getD k 0 + -(f : Rat) * (c : Rat))) (iv d)
    rw [iv_getD, Rat.intCast_sub, Rat.intCast_mul]
    congr 2
    grind
theorem ev_subs (f : Int) (x : Rat) (d : List Int) (k : Nat) (p : List Int) (h : k + d.length ≤ p.length) : evl (iv (subsI f k p d)) x = evl (iv p) x - (f : Rat) * x ^ k * evl (iv d) x := by
  rw [iv_subs, ev_adds _ _ _ _ _ (by rw [iv_len, iv_len]; exact h)]
  grind
def scI (c : Int) (p : List Int) : List Int := p.map fun n => c * n
theorem iv_sc (c : Int) (p : List Int) : iv (scI c p) = psc (c : Rat) (iv p) := by
  unfold iv scI psc
  rw [List.map_map, List.map_map]
  refine List.map_congr_left fun n _ => ?_
  show ((c * n : Int) : Rat) = _
  rw [Rat.intCast_mul]
  rfl
theorem scI_getD (c : Int) (p : List Int) (i : Nat) : (scI c p).getD i 0 = c * p.getD i 0 := by
  unfold scI
  rw [List.getD_eq_getElem?_getD, List.getD_eq_getElem?_getD, List.getElem?_map]
  cases p[i]? with
  | none => show (0 : Int) = c * 0; omega
  | some x => rfl
theorem scI_len (c : Int) (p : List Int) : (scI c p).length = p.length := List.length_map _
-- the common divisor of a row
def gcdI' (p : List Int) : Nat := p.foldl (fun g n => Nat.gcd g n.natAbs) 0
theorem fold_gcd_dvd : ∀ (p : List Int) (g : Nat), p.foldl (fun g n => Nat.gcd g n.natAbs) g ∣ g ∧ ∀ n ∈ p, p.foldl (fun g n => Nat.gcd g n.natAbs) g ∣ n.natAbs
  | [], g => ⟨Nat.dvd_refl g, fun n h => by simp at h⟩
  | a :: p, g => by
    obtain ⟨h1, h2⟩ := fold_gcd_dvd p (Nat.gcd g a.natAbs)
    refine ⟨Nat.dvd_trans h1 (Nat.gcd_dvd_left _ _), fun n hn => ?_⟩
    rcases List.mem_cons.mp hn with rfl | hn
    · exact Nat.dvd_trans h1 (Nat.gcd_dvd_right _ _)
    · exact h2 n hn
theorem gcd_dvd_all {p : List Int} {n : Int} (h : n ∈ p) : ((gcdI' p : Nat) : Int) ∣ n := Int.ofNat_dvd_left.mpr ((fold_gcd_dvd p 0).2 n h)
theorem fold_gcd_max (d : Nat) : ∀ (p : List Int) (g : Nat), d ∣ g → (∀ n ∈ p, d ∣ n.natAbs) → d ∣ p.foldl (fun g n => Nat.gcd g n.natAbs) g
  | [], g, h, _ => h
  | a :: p, g, h, k => fold_gcd_max d p _ (Nat.dvd_gcd h (k a (by simp))) fun n hn => k n (by simp [hn])
def cutI (c : Int) (p : List Int) : List Int := p.map fun n => n.fdiv c
theorem cutI_len (c : Int) (p : List Int) : (cutI c p).length = p.length := List.length_map _
theorem cutI_ev {c : Int} (hc : c ≠ 0) : ∀ {p : List Int}, (∀ n ∈ p, c ∣ n) → ∀ x, evl (iv p) x = (c : Rat) * evl (iv (cutI c p)) x
  | [], _, x => by show (0 : Rat) = _ * 0; rw [Rat.mul_zero]
  | a :: p, h, x => by
    obtain ⟨t, rfl⟩ := h a (by simp)
    have e : (c * t).fdiv c = t := Int.mul_fdiv_cancel_left t hc
    show ((c * t : Int) : Rat) + x * evl (iv p) x = (c : Rat) * ((((c * t).fdiv c : Int) : Rat) + x * evl (iv (cutI c p)) x)
    rw [e, cutI_ev hc fun n hn => h n (by simp [hn]), Rat.intCast_mul]
    grind
theorem natAbs_fdiv_le (a : Int) {c : Int} (hc : 0 < c) (h : c ∣ a) : (a.fdiv c).natAbs ≤ a.natAbs := by
  obtain ⟨t, rfl⟩ := h
  rw [Int.mul_fdiv_cancel_left t (by omega), Int.natAbs_mul]
  exact Nat.le_mul_of_pos_left _ (by omega)
theorem mem_of_getD {p : List Int} {i : Nat} (h : p.getD i 0 ≠ 0) : p.getD i 0 ∈ p := by
  rw [List.getD_eq_getElem?_getD] at h ⊢
  cases e : p[i]? with
  | none => rw [e] at h; exact absurd rfl h
  | some x => exact List.mem_of_getElem? e
theorem cutI_getD (c : Int) (p : List Int) (i : Nat) : (cutI c p).getD i 0 = (p.getD i 0).fdiv c := by
  unfold cutI
  rw [List.getD_eq_getElem?_getD, List.getD_eq_getElem?_getD, List.getElem?_map]
  cases p[i]? with
  | none => show (0 : Int) = Int.fdiv 0 c; rw [Int.zero_fdiv]
  | some x => rfl
theorem NB.cut {b : Nat} {p : List Int} {c : Int} (hc : 0 < c) (hd : ∀ n ∈ p, c ∣ n) (h : NB b p) : NB b (cutI c p) := fun i => by
  rw [cutI_getD]
  by_cases z : p.getD i 0 = 0
  · rw [z, Int.zero_fdiv]; exact Nat.two_pow_pos b
  · exact Nat.lt_of_le_of_lt (natAbs_fdiv_le _ hc (hd _ (mem_of_getD z))) (h i)
theorem TrI.cut {p : List Int} {c : Int} (hc : 0 < c) (hd : ∀ n ∈ p, c ∣ n) (h : TrI p) : TrI (cutI c p) := fun a e => by
  unfold cutI at e
  rw [List.getLast?_map] at e
  cases q : p.getLast? with
  | none => rw [q] at e; simp at e
  | some b =>
    rw [q] at e
    have e2 : b.fdiv c = a := by simpa using e
    obtain ⟨t, ht⟩ := hd b (List.mem_of_getLast? q)
    rw [ht, Int.mul_fdiv_cancel_left t (by omega)] at e2
    have := h b q
    intro z
    apply this
    rw [ht, e2, z, Int.mul_zero]
set_option Elab.async false
set_option linter.all false
set_option maxRecDepth 100000
set_option maxHeartbeats 1000000
open PySem L2
/-! ### loops -/
/-- for over a range: what holds of the slots at each turn -/
theorem for_rng {g : D → Env → Option Env} {b : Env → Out} (I : Nat → Env → Prop) : ∀ (n i : Nat) (ρ : Env), I i ρ → (∀ j ρ, i ≤ j → j < i + n → I j ρ → ∃ ρ1, g (.int (j : Int)) ρ = some ρ1 ∧ ∃ ρ2, b ρ1 = .next ρ2 ∧ I (j + 1) ρ2) → ∃ ρ', S.forL g b ((List.range' i n).map fun (j : Nat) => D.int (j : Int)) ρ = .next ρ' ∧ I (i + n) ρ'
  | 0, i, ρ, h, _ => ⟨ρ, rfl, h⟩
  | n + 1, i, ρ, h, k => by
    obtain ⟨ρ1, h1, ρ2, h2, h3⟩ := k i ρ (Nat.le_refl i) (by omega) h
    obtain ⟨ρ', h4, h5⟩ := for_rng I n (i + 1) ρ2 h3 fun j ρ p q => k j ρ (by omega) (by omega)
    refine ⟨ρ', ?_, by rw [show i + (n + 1) = i + 1 + n by omega]; exact h5⟩
    rw [List.range'_succ, List.map_cons, S.forL, h1]
    dsimp only
    rw [h2]
    exact h4
theorem rngD_0 (n : Nat) : rngD 0 n = (List.range' 0 n).map fun (j : Nat) => D.int (j : Int) := by
  unfold rngD
  rw [List.range_eq_range']
  congr 1
  funext i
  rw [Int.zero_add]
theorem for_0 {g : D → Env → Option Env} {b : Env → Out} (I : Nat → Env → Prop) (n : Nat) (ρ : Env) (h : I 0 ρ) (k : ∀ j ρ, j < n → I j ρ → ∃ ρ1, g (.int (j : Int)) ρ = some ρ1 ∧ ∃ ρ2, b ρ1 = .next ρ2 ∧ I (j + 1) ρ2) : ∃ ρ', S.forL g b (rngD 0 n) ρ = .next ρ' ∧ I n ρ' := by
  rw [rngD_0]
  obtain ⟨ρ', h1, h2⟩ := for_rng I n 0 ρ h fun j ρ _ q => k j ρ (by omega)
  exact ⟨ρ', h1, by rw [Nat.zero_add] at h2; exact h2⟩
theorem forE_0 {it : Env → Res (List D)} {g : D → Env → Option Env} {b : Env → Out} (I : Nat → Env → Prop) {n : Nat} {ρ : Env} (hi : it ρ = .ok (rngD 0 n)) (h : I 0 ρ) (k : ∀ j ρ, j < n → I j ρ → ∃ ρ1, g (.int (j : Int)) ρ = some ρ1 ∧ ∃ ρ2, b ρ1 = .next ρ2 ∧ I (j + 1) ρ2) : ∃ ρ', S.forE it g b ρ = .next ρ' ∧ I n ρ' := by
  obtain ⟨ρ', h1, h2⟩ := for_0 (g := g) (b := b) I n ρ h k
  refine ⟨ρ', ?_, h2⟩
  unfold S.forE S.lift
  rw [hi]
  exact h1
/-- for over a list -/
theorem for_each {g : D → Env → Option Env} {b : Env → Out} (I : List D → Env → Prop) : ∀ (ds : List D) (ρ : Env), I ds ρ → (∀ d r ρ, I (d :: r) ρ → ∃ ρ1, g d ρ = some ρ1 ∧ ∃ ρ2, b ρ1 = .next ρ2 ∧ I r ρ2) → ∃ ρ', S.forL g b ds ρ = .next ρ' ∧ I [] ρ'
  | [], ρ, h, _ => ⟨ρ, rfl, h⟩
  | d :: r, ρ, h, k => by
    obtain ⟨ρ1, h1, ρ2, h2, h3⟩ := k d r ρ h
    obtain ⟨ρ', h4, h5⟩ := for_each I r ρ2 h3 k
    refine ⟨ρ', ?_, h5⟩
    rw [S.forL, h1]
    dsimp only
    rw [h2]
    exact h4
/-- while with a measure -/
theorem while_inv {c : Env → Res Bool} {b : Env → Out} (I : Env → Prop) (μ : Env → Nat) (k : ∀ ρ, I ρ → c ρ = .ok false ∨ (c ρ = .ok true ∧ ∃ ρ', b ρ = .next ρ' ∧ I ρ' ∧ μ ρ' < μ ρ)) : ∀ (n : Nat) (ρ : Env), I ρ → μ ρ < n → ∃ ρ', S.whileN c b n ρ = .next ρ' ∧ I ρ' ∧ c ρ' = .ok false
  | 0, ρ, _, h => absurd h (Nat.not_lt_zero _)
  | n + 1, ρ, i, h => by
    rcases k ρ i with e | ⟨e, ρ1, e1, i1, l⟩
    · refine ⟨ρ, ?_, i, e⟩
      rw [S.whileN, e]
      rfl
    · obtain ⟨ρ', h1, h2, h3⟩ := while_inv I μ k n ρ1 i1 (by omega)
      refine ⟨ρ', ?_, h2, h3⟩
      rw [S.whileN, e]
      show (match b ρ with | .next ρ' => S.whileN c b n ρ' | .cnt ρ' => S.whileN c b n ρ' | .brk ρ' => .next ρ' | o => o) = _
      rw [e1]
      exact h1
theorem seq_next {f g : Env → Out} {ρ ρ' : Env} (h : f ρ = .next ρ') : S.seq f g ρ = g ρ' := by unfold S.seq; rw [h]
theorem seq_ret {f g : Env → Out} {ρ : Env} {d : D} (h : f ρ = .ret d) : S.seq f g ρ = .ret d := by unfold S.seq; rw [h]
theorem seq_retF {f g : Env → Out} {ρ : Env} {d : List D} (h : f ρ = .retF d) : S.seq f g ρ = .retF d := by unfold S.seq; rw [h]
theorem seq_ex {f g : Env → Out} {ρ : Env} {o : Out} (P : Env → Prop) (h : ∃ ρ', f ρ = .next ρ' ∧ P ρ') (k : ∀ ρ', P ρ' → g ρ' = o) : S.seq f g ρ = o := by
  obtain ⟨ρ', e, p⟩ := h
  rw [seq_next e]
  exact k ρ' p
theorem ite_t {c : Env → Res Bool} {f g : Env → Out} {ρ : Env} (h : c ρ = .ok true) : S.ite c f g ρ = f ρ := by
  unfold S.ite
  rw [h]
  rfl
theorem ite_f {c : Env → Res Bool} {f g : Env → Out} {ρ : Env} (h : c ρ = .ok false) : S.ite c f g ρ = g ρ := by
  unfold S.ite
  rw [h]
  rfl
theorem seq_cnt {f g : Env → Out} {ρ ρ' : Env} (h : f ρ = .cnt ρ') : S.seq f g ρ = .cnt ρ' := by unfold S.seq; rw [h]
theorem set_ok {i : Nat} {f : Env → Res D} {ρ : Env} {d : D} (h : f ρ = .ok d) (hi : i < ρ.length := by simp) : S.set i f ρ = .next (List.set ρ i (.val d)) := by
  unfold S.set S.lift
  rw [h]
  exact if_pos hi
theorem setF_ok {i : Nat} {f : Env → Res (List D)} {ρ : Env} {ds : List D} (h : f ρ = .ok ds) (hi : i < ρ.length := by simp) : S.setF i f ρ = .next (List.set ρ i (.own ds)) := by
  unfold S.setF S.lift
  rw [h]
  exact if_pos hi
theorem lst_ok {f : Env → Res (List D)} {ρ : Env} {ds : List D} (h : f ρ = .ok ds) : E.lst f ρ = .ok (.lst ds) := by
  unfold E.lst
  rw [h]
  rfl
theorem asTup_ok {f : Env → Res (List D)} {ρ : Env} {ds : List D} (h : f ρ = .ok ds) : E.asTup f ρ = .ok (.tup ds) := by
  unfold E.asTup
  rw [h]
  rfl
theorem app_ok {g : List D → Res D} {f : Env → Res (List D)} {ρ : Env} {ds : List D} {d : D} (h : f ρ = .ok ds) (hg : g ds = .ok d) : E.app g f ρ = .ok d := by
  unfold E.app
  rw [h]
  exact hg
theorem appF_ok {g : List D → Res (List D)} {f : Env → Res (List D)} {ρ : Env} {ds : List D} {d : List D} (h : f ρ = .ok ds) (hg : g ds = .ok d) : E.appF g f ρ = .ok d := by
  unfold E.appF
  rw [h]
  exact hg
theorem cons_ok {f : Env → Res D} {g : Env → Res (List D)} {ρ : Env} {d : D} {ds : List D} (h : f ρ = .ok d) (h2 : g ρ = .ok ds) : E.cons f g ρ = .ok (d :: ds) := by
  unfold E.cons
  rw [h, Res.bind_ok, h2]
  rfl
theorem nil_ok {ρ : Env} : E.nil ρ = .ok [] := rfl
theorem tupl_ok {f : Env → Res (List D)} {ρ : Env} {ds : List D} (h : f ρ = .ok ds) (hl : ds.length ≤ 16777216 := by simp) : E.tupl f ρ = .ok (.tup ds) := by
  unfold E.tupl
  rw [h]
  exact if_pos hl
theorem op2_ok {g : D → D → Res D} {f h : Env → Res D} {ρ : Env} {x y z : D} (hf : f ρ = .ok x) (hh : h ρ = .ok y) (hg : g x y = .ok z) : E.op2 g f h ρ = .ok z := by
  unfold E.op2
  rw [hf, Res.bind_ok, hh]
  exact hg
theorem op1_ok {g : D → Res D} {f : Env → Res D} {ρ : Env} {x z : D} (hf : f ρ = .ok x) (hg : g x = .ok z) : E.op1 g f ρ = .ok z := by
  unfold E.op1
  rw [hf]
  exact hg
theorem meth_ok {c : Nat} {g : List D → Res D} {fo : Env → Res D} {fa : Env → Res (List D)} {ρ : Env} {fs as : List D} {z : D} (hf : fo ρ = .ok (.obj c fs)) (ha : fa ρ = .ok as) (hg : g (.obj c fs :: as) = .ok z) : E.meth c g fo fa ρ = .ok z := by
  unfold E.meth
  rw [hf]
  show (if c = c then _ else _) = _
  rw [if_pos rfl, ha]
  exact hg
theorem own2_ok {c : Nat} {g : List D → Res D} {f h : Env → Res D} {ρ : Env} {fs gs : List D} {z : D} (hf : f ρ = .ok (.obj c fs)) (hh : h ρ = .ok (.obj c gs)) (hg : g [.obj c fs, .obj c gs] = .ok z) : E.own2 c g f h ρ = .ok z := by
  unfold E.own2
  rw [hf, Res.bind_ok, hh]
  show (if c = c ∧ c = c then _ else _) = _
  rw [if_pos ⟨rfl, rfl⟩]
  exact hg
theorem fld_ok {c i : Nat} {f : Env → Res D} {ρ : Env} {fs : List D} {d : D} (hf : f ρ = .ok (.obj c fs)) (hd : fs[i]? = some d := by rfl) : E.fld c i f ρ = .ok d := by
  unfold E.fld
  rw [hf]
  show (if c = c then _ else _) = _
  rw [if_pos rfl, hd]
theorem ix_ok {q : Env → Res (List D)} {f : Env → Res D} {ρ : Env} {ds : List D} {i : Int} {d : D} (hq : q ρ = .ok ds) (hf : f ρ = .ok (.int i)) (hd : atI ds i = some d) : E.ix q f ρ = .ok d := by
  unfold E.ix
  rw [hq, Res.bind_ok, hf]
  show (match atI ds i with | some d => Res.ok d | none => .stuck) = _
  rw [hd]
theorem eite_t {c : Env → Res Bool} {f g : Env → Res D} {ρ : Env} (h : c ρ = .ok true) : E.ite c f g ρ = f ρ := by
  unfold E.ite
  rw [h]
  rfl
theorem eite_f {c : Env → Res Bool} {f g : Env → Res D} {ρ : Env} (h : c ρ = .ok false) : E.ite c f g ρ = g ρ := by
  unfold E.ite
  rw [h]
  rfl
theorem app_next {i : Nat} {f : Env → Res D} {ρ : Env} {ds : List D} {d : D} (hρ : ρ[i]? = some (.own ds)) (hf : f ρ = .ok d) (hl : ds.length < 16777216) : S.app i f ρ = .next (List.set ρ i (.own (ds ++ [d]))) := by
  unfold S.app
  rw [hρ]
  show S.lift _ _ _ = _
  unfold S.lift
  rw [hf]
  exact if_pos hl
theorem setAt_next {i m : Nat} {fk fv : Env → Res D} {ρ : Env} {ds : List D} {d : D} {n : Int} (hρ : ρ[i]? = some (.own ds)) (hv : fv ρ = .ok d) (hk : fk ρ = .ok (.int n)) (hm : ixN ds.length n = some m) : S.setAt i fk fv ρ = .next (List.set ρ i (.own (ds.set m d))) := by
  unfold S.setAt S.lift
  rw [hv]
  dsimp only
  rw [hρ]
  dsimp only
  rw [hk]
  dsimp only
  rw [hm]
theorem setM_ok {j i : Nat} {g : List D → List D → Res (List D × D)} {fa : Env → Res (List D)} {ρ : Env} {es es' as : List D} {d : D} (hρ : ρ[i]? = some (.own es)) (ha : fa ρ = .ok as) (hg : g es as = .ok (es', d)) (hj : j < ρ.length ∧ j ≠ i) : S.setM j i g fa ρ = .next (List.set (List.set ρ i (.own es')) j (.val d)) := by
  unfold S.setM S.lift
  rw [hρ]
  dsimp only
  rw [ha]
  dsimp only
  rw [hg]
  exact if_pos hj
theorem or_f {f g : Env → Res Bool} {ρ : Env} {b : Bool} (h : f ρ = .ok false) (h2 : g ρ = .ok b) : T.or f g ρ = .ok b := by
  unfold T.or
  rw [h]
  exact h2
theorem or_t {f g : Env → Res Bool} {ρ : Env} (h : f ρ = .ok true) : T.or f g ρ = .ok true := by
  unfold T.or
  rw [h]
  rfl
theorem and_t {f g : Env → Res Bool} {ρ : Env} {b : Bool} (h : f ρ = .ok true) (h2 : g ρ = .ok b) : T.and f g ρ = .ok b := by
  unfold T.and
  rw [h]
  exact h2
theorem and_f {f g : Env → Res Bool} {ρ : Env} (h : f ρ = .ok false) : T.and f g ρ = .ok false := by
  unfold T.and
  rw [h]
  rfl
theorem not_ok {f : Env → Res Bool} {ρ : Env} {b : Bool} (h : f ρ = .ok b) : T.not f ρ = .ok (!b) := by
  unfold T.not
  rw [h]
  rfl
theorem neS_int (i j : Int) : neS (.int i) (.int j) = .ok (.bl (!decide (i = j))) := rfl
theorem eqS_int (i j : Int) : eqS (.int i) (.int j) = .ok (.bl (decide (i = j))) := rfl
theorem neS_self (i : Int) : neS (.int i) (.int i) = .ok (.bl false) := by rw [neS_int, decide_eq_true rfl] <;> rfl
theorem ret_ok {f : Env → Res D} {ρ : Env} {d : D} (h : f ρ = .ok d) : S.ret f ρ = .ret d := by
  unfold S.ret S.lift
  rw [h]
/-! ### comprehensions -/
section
variable {vs : List Nat} {it : Env → Res (List D)} {g : D → Env → Option Env} {t : Env → Res Bool} {e : Env → Res D} {ρ : Env} {α : Type} {enc : α → D}
theorem compL_filter (p : α → Bool) (f : α → D) : ∀ (xs : List α), (∀ x ∈ xs, ∃ ρ1, g (enc x) (wipeE ρ vs) = some ρ1 ∧ t ρ1 = .ok (p x) ∧ (p x = true → e ρ1 = .ok (f x))) → E.compL vs g t e (xs.map enc) ρ = .ok ((xs.filter p).map f)
  | [], _ => rfl
  | x :: xs, h => by
    obtain ⟨ρ1, h1, h2, h3⟩ := h x (by simp)
    have ih := compL_filter p f xs fun y hy => h y (by simp [hy])
    rw [List.map_cons, E.compL, h1]
    dsimp only
    rw [h2]
    cases q : p x with
    | true =>
      dsimp only
      rw [h3 q]
      dsimp only
      rw [ih, List.filter_cons_of_pos q]
      rfl
    | false =>
      dsimp only
      rw [ih, List.filter_cons_of_neg (by simp [q])]
theorem comp_filter {xs : List α} (p : α → Bool) (f : α → D) (hi : it ρ = .ok (xs.map enc)) (hv : vs.all (notOwn ρ) = true) (hl : xs.length ≤ 16777216) (h : ∀ x ∈ xs, ∃ ρ1, g (enc x) (wipeE ρ vs) = some ρ1 ∧ t ρ1 = .ok (p x) ∧ (p x = true → e ρ1 = .ok (f x))) : E.comp vs it g t e ρ = .ok ((xs.filter p).map f) := by
  unfold E.comp
  rw [hi, Res.bind_ok, if_pos ⟨hv, by rw [List.length_map, size_eq]; exact hl⟩]
  exact compL_filter p f xs h
theorem comp_map {xs : List α} (f : α → D) (hi : it ρ = .ok (xs.map enc)) (hv : vs.all (notOwn ρ) = true) (hl : xs.length ≤ 16777216) (h : ∀ x ∈ xs, ∃ ρ1, g (enc x) (wipeE ρ vs) = some ρ1 ∧ t ρ1 = .ok true ∧ e ρ1 = .ok (f x)) : E.comp vs it g t e ρ = .ok (xs.map f) := by
  rw [comp_filter (fun _ => true) f hi hv hl fun x hx => by
    obtain ⟨ρ1, h1, h2, h3⟩ := h x hx
    exact ⟨ρ1, h1, h2, fun _ => h3⟩, List.filter_eq_self.mpr fun _ _ => rfl]
end
theorem rngD_map (lo : Int) (n : Nat) : rngD lo n = (List.range n).map fun (i : Nat) => D.int (lo + (i : Int)) := rfl
theorem rngD_map0 (n : Nat) : rngD 0 n = (List.range n).map fun (i : Nat) => D.int (i : Int) := by
  unfold rngD
  congr 1
  funext i
  rw [Int.zero_add]
theorem rngD_from (lo n : Nat) : rngD (lo : Int) n = (List.range' lo n).map fun (i : Nat) => D.int (i : Int) := by
  unfold rngD
  rw [List.range'_eq_map_range, List.map_map]
  rfl
theorem pairs_map {α β : Type} (f : α → D) (g : β → D) (xs : List α) (ys : List β) : pairs (xs.map f) (ys.map g) = (xs.zip ys).map fun p => D.tup [f p.1, g p.2] := by
  unfold pairs
  rw [List.zipWith_map_left, List.zipWith_map_right, List.zip, List.map_zipWith]
theorem rng2_ok {f g : Env → Res D} {ρ : Env} {i j : Int} (hf : f ρ = .ok (.int i)) (hg : g ρ = .ok (.int j)) (hi : i < 1000000) (hj : j < 1000000) (hi0 : -1000000 < i) (hj0 : -1000000 < j) : E.rng2 f g ρ = .ok (rngD i (j - i).toNat) := by
  unfold E.rng2
  rw [hf, hg]
  simp only [Res.bind_ok]
  rw [if_pos ⟨by omega, by omega, by omega, by omega⟩]
theorem rng2_n {f g : Env → Res D} {ρ : Env} {i j : Nat} (hf : f ρ = .ok (.int i)) (hg : g ρ = .ok (.int j)) (hi : i < 1000000) (hj : j < 1000000) : E.rng2 f g ρ = .ok ((List.range' i (j - i)).map fun (i : Nat) => D.int (i : Int)) := by
  rw [rng2_ok hf hg (by omega) (by omega) (by omega) (by omega), rngD_from]
  congr 3
  omega
theorem atI_map {α : Type} (f : α → D) (xs : List α) (n : Nat) : atI (xs.map f) (n : Int) = (xs[n]?).map f := by
  rw [atI_n, List.getElem?_map]
theorem ixN_n {len i : Nat} (h : i < len) : ixN len (i : Int) = some i := by
  unfold ixN
  rw [if_pos (Int.natCast_nonneg i), if_pos (by omega)]
  simp
theorem set_map {α : Type} (f : α → D) (xs : List α) (i : Nat) (x : α) : (xs.map f).set i (f x) = (xs.set i x).map f := by
  rw [List.map_set]
/-- a loop over a list of things, by their number -/
theorem forL_ix {α : Type} {enc : α → D} {g : D → Env → Option Env} {b : Env → Out} (xs : List α) (I : Nat → Env → Prop) {ρ : Env} (h : I 0 ρ) (k : ∀ j x ρ, xs[j]? = some x → I j ρ → ∃ ρ1, g (enc x) ρ = some ρ1 ∧ ((∃ ρ2, b ρ1 = .next ρ2 ∧ I (j + 1) ρ2) ∨ ∃ ρ2, b ρ1 = .cnt ρ2 ∧ I (j + 1) ρ2)) : ∃ ρ', S.forL g b (xs.map enc) ρ = .next ρ' ∧ I xs.length ρ' := by
  suffices go : ∀ (ys : List α) (i : Nat) (ρ : Env), (∀ j, ys[j]? = xs[i + j]?) → I i ρ → ∃ ρ', S.forL g b (ys.map enc) ρ = .next ρ' ∧ I (i + ys.length) ρ' by
    obtain ⟨ρ', h1, h2⟩ := go xs 0 ρ (fun j => by rw [Nat.zero_add]) h
    exact ⟨ρ', h1, by rw [Nat.zero_add] at h2; exact h2⟩
  intro ys
  induction ys with
  | nil => intro i ρ _ hi; exact ⟨ρ, rfl, hi⟩
  | cons y ys ih =>
    intro i ρ he hi
    obtain ⟨ρ1, e1, e2⟩ := k i y ρ (by have := he 0; rw [Nat.add_zero] at this; rw [← this]; rfl) hi
    have nx : ∀ ρ2, I (i + 1) ρ2 → ∃ ρ', S.forL g b (ys.map enc) ρ2 = .next ρ' ∧ I (i + (ys.length + 1)) ρ' := fun ρ2 h2 => by
      obtain ⟨ρ', h3, h4⟩ := ih (i + 1) ρ2 (fun j => by have := he (j + 1); rw [List.getElem?_cons_succ] at this; rw [this]; congr 1; omega) h2
      exact ⟨ρ', h3, by rw [show i + (ys.length + 1) = i + 1 + ys.length by omega]; exact h4⟩
    rw [List.map_cons, S.forL, e1]
    dsimp only
    rcases e2 with ⟨ρ2, e3, h2⟩ | ⟨ρ2, e3, h2⟩
    · rw [e3]; exact nx ρ2 h2
    · rw [e3]; exact nx ρ2 h2
theorem forE_ix {α : Type} {enc : α → D} {it : Env → Res (List D)} {g : D → Env → Option Env} {b : Env → Out} (xs : List α) (I : Nat → Env → Prop) {ρ : Env} (hi : it ρ = .ok (xs.map enc)) (h : I 0 ρ) (k : ∀ j x ρ, xs[j]? = some x → I j ρ → ∃ ρ1, g (enc x) ρ = some ρ1 ∧ ((∃ ρ2, b ρ1 = .next ρ2 ∧ I (j + 1) ρ2) ∨ ∃ ρ2, b ρ1 = .cnt ρ2 ∧ I (j + 1) ρ2)) : ∃ ρ', S.forE it g b ρ = .next ρ' ∧ I xs.length ρ' := by
  obtain ⟨ρ', h1, h2⟩ := forL_ix (g := g) (b := b) xs I h k
  exact ⟨ρ', by unfold S.forE S.lift; rw [hi]; exact h1, h2⟩
set_option Elab.async false
set_option linter.all false
set_option maxRecDepth 100000
set_option maxHeartbeats 0
open PySem L2
def nmOf : Nat → Str
  | 20 => "Fault"
  | 21 => "ZeroDivisor"
  | 0 => "Ratio"
  | 1 => "Poly"
  | _ => ""
def fldOf : Nat → List Str
  | 0 => ["n", "d"]
  | 1 => ["row"]
  | _ => []
def gam (P : Program) (w : World) (K : PySem.W.Frag) (mg : Str → Option Value) (base : Heap) : Gam := { P := P, w := w, K := K, mg := mg, base := base, cls := fun c => He.ga K (nmOf c), fld := fldOf }
def top (i : Nat) : Stmt := PySem.Challenge.pw_indicial_k13_linear_combinations.main.body.getD i (.Pass ⟨0, 0, 0, 0⟩)
def eqL : List Nat := [0, 1]
abbrev st_law_cell : Stmt := top 19
abbrev st_law_draws : Stmt := top 20
abbrev st_law_trim : Stmt := top 28
abbrev st_law_gcd : Stmt := top 21
abbrev st_law_rat : Stmt := top 22
abbrev st_law_small : Stmt := top 27
abbrev st_law_add : Stmt := top 23
abbrev st_law_mul : Stmt := top 24
abbrev st_law_pmul : Stmt := top 30
abbrev st_law_poly : Stmt := top 32
abbrev st_law_padd : Stmt := top 29
abbrev st_Poly_is_zero : Stmt := inClass (top 11) 12
abbrev st_Ratio_init : Stmt := inClass (top 8) 0
abbrev st_Ratio_inverse : Stmt := inClass (top 8) 7
abbrev st_Poly_last : Stmt := inClass (top 11) 13
abbrev st_Ratio_mul : Stmt := inClass (top 8) 3
abbrev st_Ratio_sub : Stmt := inClass (top 8) 2
abbrev st_trimmed : Stmt := top 10
abbrev st_Poly_init : Stmt := inClass (top 11) 0
abbrev st_Poly_divided : Stmt := inClass (top 11) 10
abbrev st_Poly_divides : Stmt := inClass (top 11) 22
abbrev st_Poly_floordiv : Stmt := inClass (top 11) 6
abbrev st_Ratio_add : Stmt := inClass (top 8) 1
abbrev st_Poly_add : Stmt := inClass (top 11) 1
abbrev st_Ratio_neg : Stmt := inClass (top 8) 4
abbrev st_Poly_neg : Stmt := inClass (top 11) 2
abbrev st_Poly_sub : Stmt := inClass (top 11) 3
abbrev st_Poly_mul : Stmt := inClass (top 11) 4
abbrev st_Poly_scaled : Stmt := inClass (top 11) 16
abbrev st_first_cofactor : Stmt := top 16
abbrev st_Poly_mod : Stmt := inClass (top 11) 7
abbrev st_combine_to : Stmt := top 17
abbrev st_law_make : Stmt := top 34
abbrev st_law_is_integer : Stmt := top 25
abbrev st_law_pair : Stmt := top 26
abbrev st_law_row : Stmt := top 33
abbrev st_Poly_monic : Stmt := inClass (top 11) 18
abbrev st_Poly_degree : Stmt := inClass (top 11) 11
abbrev st_Poly_primitive : Stmt := inClass (top 11) 23
abbrev st_primitive_row : Stmt := top 13
abbrev st_integer_rest : Stmt := top 14
abbrev st_common_divisor : Stmt := top 15
abbrev st_law : Stmt := top 35
def isi_Poly : D → Option Bool := Tst.f ⟨false, false, false, false, false, false, [(0, false), (1, true)]⟩
def isi_Ratio : D → Option Bool := Tst.f ⟨false, false, false, false, false, false, [(0, true), (1, false)]⟩
def isi_bool : D → Option Bool := Tst.f ⟨false, true, false, false, false, false, [(0, false), (1, false)]⟩
def isi_int : D → Option Bool := Tst.f ⟨false, true, true, false, false, false, [(0, false), (1, false)]⟩
def isi_tuple : D → Option Bool := Tst.f ⟨false, false, false, false, true, false, [(0, false), (1, false)]⟩
structure Base (Γ : Gam) : Prop where
  n_abs : Γ.mg "abs" = none
  n_bool : Γ.mg "bool" = none
  n_enumerate : Γ.mg "enumerate" = none
  n_int : Γ.mg "int" = none
  n_isinstance : Γ.mg "isinstance" = none
  n_len : Γ.mg "len" = none
  n_list : Γ.mg "list" = none
  n_max : Γ.mg "max" = none
  n_range : Γ.mg "range" = none
  n_tuple : Γ.mg "tuple" = none
  n_zip : Γ.mg "zip" = none
  gcd : Γ.mg "gcd" = some (.builtin "math.gcd")
  lcm : Γ.mg "lcm" = some (.builtin "math.lcm")
  k_Ratio : ClsOk Γ 0 "Ratio"
  fl_Ratio : Γ.fld 0 = (["n", "d"] : List Str)
  k_Poly : ClsOk Γ 1 "Poly"
  fl_Poly : Γ.fld 1 = (["row"] : List Str)
  na_Poly_row : NoAttr Γ.K (Γ.cls 1) "row"
  na_Ratio_d : NoAttr Γ.K (Γ.cls 0) "d"
  na_Ratio_n : NoAttr Γ.K (Γ.cls 0) "n"
  fd_law_cell : ∃ g, FunD Γ.K "_law_cell" "_law_cell" (defArgs st_law_cell) (defBody st_law_cell) (defScope st_law_cell) [] [] (He.ga Γ.K "_law_cell") g
  g_law_cell : Glo Γ "_law_cell" (He.ga Γ.K "_law_cell")
  fd_law_draws : ∃ g, FunD Γ.K "_law_draws" "_law_draws" (defArgs st_law_draws) (defBody st_law_draws) (defScope st_law_draws) [] [] (He.ga Γ.K "_law_draws") g
  g_law_draws : Glo Γ "_law_draws" (He.ga Γ.K "_law_draws")
  fd_law_trim : ∃ g, FunD Γ.K "_law_trim" "_law_trim" (defArgs st_law_trim) (defBody st_law_trim) (defScope st_law_trim) [] [] (He.ga Γ.K "_law_trim") g
  g_law_trim : Glo Γ "_law_trim" (He.ga Γ.K "_law_trim")
  fd_law_gcd : ∃ g, FunD Γ.K "_law_gcd" "_law_gcd" (defArgs st_law_gcd) (defBody st_law_gcd) (defScope st_law_gcd) [] [] (He.ga Γ.K "_law_gcd") g
  g_law_gcd : Glo Γ "_law_gcd" (He.ga Γ.K "_law_gcd")
  fd_law_rat : ∃ g, FunD Γ.K "_law_rat" "_law_rat" (defArgs st_law_rat) (defBody st_law_rat) (defScope st_law_rat) [] [] (He.ga Γ.K "_law_rat") g
  g_law_rat : Glo Γ "_law_rat" (He.ga Γ.K "_law_rat")
  fd_law_small : ∃ g, FunD Γ.K "_law_small" "_law_small" (defArgs st_law_small) (defBody st_law_small) (defScope st_law_small) [] [] (He.ga Γ.K "_law_small") g
  g_law_small : Glo Γ "_law_small" (He.ga Γ.K "_law_small")
  fd_law_add : ∃ g, FunD Γ.K "_law_add" "_law_add" (defArgs st_law_add) (defBody st_law_add) (defScope st_law_add) [] [] (He.ga Γ.K "_law_add") g
  g_law_add : Glo Γ "_law_add" (He.ga Γ.K "_law_add")
  fd_law_mul : ∃ g, FunD Γ.K "_law_mul" "_law_mul" (defArgs st_law_mul) (defBody st_law_mul) (defScope st_law_mul) [] [] (He.ga Γ.K "_law_mul") g
  g_law_mul : Glo Γ "_law_mul" (He.ga Γ.K "_law_mul")
  fd_law_pmul : ∃ g, FunD Γ.K "_law_pmul" "_law_pmul" (defArgs st_law_pmul) (defBody st_law_pmul) (defScope st_law_pmul) [] [] (He.ga Γ.K "_law_pmul") g
  g_law_pmul : Glo Γ "_law_pmul" (He.ga Γ.K "_law_pmul")
  fd_law_poly : ∃ g, FunD Γ.K "_law_poly" "_law_poly" (defArgs st_law_poly) (defBody st_law_poly) (defScope st_law_poly) [] [] (He.ga Γ.K "_law_poly") g
  g_law_poly : Glo Γ "_law_poly" (He.ga Γ.K "_law_poly")
  fd_law_padd : ∃ g, FunD Γ.K "_law_padd" "_law_padd" (defArgs st_law_padd) (defBody st_law_padd) (defScope st_law_padd) [] [] (He.ga Γ.K "_law_padd") g
  g_law_padd : Glo Γ "_law_padd" (He.ga Γ.K "_law_padd")
  fd_Poly_is_zero : ∃ g, FunD Γ.K "is_zero" "Poly.is_zero" (defArgs st_Poly_is_zero) (defBody st_Poly_is_zero) (defScope st_Poly_is_zero) [] [] (He.ma Γ.K (He.ga Γ.K "Poly") "is_zero") g
  mt_Poly_is_zero : Meth Γ.K (Γ.cls 1) "is_zero" (He.ma Γ.K (He.ga Γ.K "Poly") "is_zero")
  fd_Ratio_init : ∃ g, FunD Γ.K "__init__" "Ratio.__init__" (defArgs st_Ratio_init) (defBody st_Ratio_init) (defScope st_Ratio_init) [(.int 1)] [] (He.ma Γ.K (He.ga Γ.K "Ratio") "__init__") g
  mk_Ratio : Mk Γ.K (Γ.cls 0) (He.ma Γ.K (He.ga Γ.K "Ratio") "__init__")
  fd_Ratio_inverse : ∃ g, FunD Γ.K "inverse" "Ratio.inverse" (defArgs st_Ratio_inverse) (defBody st_Ratio_inverse) (defScope st_Ratio_inverse) [] [] (He.ma Γ.K (He.ga Γ.K "Ratio") "inverse") g
  mt_Ratio_inverse : Meth Γ.K (Γ.cls 0) "inverse" (He.ma Γ.K (He.ga Γ.K "Ratio") "inverse")
  fd_Poly_last : ∃ g, FunD Γ.K "last" "Poly.last" (defArgs st_Poly_last) (defBody st_Poly_last) (defScope st_Poly_last) [] [] (He.ma Γ.K (He.ga Γ.K "Poly") "last") g
  mt_Poly_last : Meth Γ.K (Γ.cls 1) "last" (He.ma Γ.K (He.ga Γ.K "Poly") "last")
  fd_Ratio_mul : ∃ g, FunD Γ.K "__mul__" "Ratio.__mul__" (defArgs st_Ratio_mul) (defBody st_Ratio_mul) (defScope st_Ratio_mul) [] [] (He.ma Γ.K (He.ga Γ.K "Ratio") "__mul__") g
  mt_Ratio_mul : Meth Γ.K (Γ.cls 0) "__mul__" (He.ma Γ.K (He.ga Γ.K "Ratio") "__mul__")
  fd_Ratio_sub : ∃ g, FunD Γ.K "__sub__" "Ratio.__sub__" (defArgs st_Ratio_sub) (defBody st_Ratio_sub) (defScope st_Ratio_sub) [] [] (He.ma Γ.K (He.ga Γ.K "Ratio") "__sub__") g
  mt_Ratio_sub : Meth Γ.K (Γ.cls 0) "__sub__" (He.ma Γ.K (He.ga Γ.K "Ratio") "__sub__")
  fd_trimmed : ∃ g, FunD Γ.K "_trimmed" "_trimmed" (defArgs st_trimmed) (defBody st_trimmed) (defScope st_trimmed) [] [] (He.ga Γ.K "_trimmed") g
  g_trimmed : Glo Γ "_trimmed" (He.ga Γ.K "_trimmed")
  fd_Poly_init : ∃ g, FunD Γ.K "__init__" "Poly.__init__" (defArgs st_Poly_init) (defBody st_Poly_init) (defScope st_Poly_init) [] [] (He.ma Γ.K (He.ga Γ.K "Poly") "__init__") g
  mk_Poly : Mk Γ.K (Γ.cls 1) (He.ma Γ.K (He.ga Γ.K "Poly") "__init__")
  fd_Poly_divided : ∃ g, FunD Γ.K "divided" "Poly.divided" (defArgs st_Poly_divided) (defBody st_Poly_divided) (defScope st_Poly_divided) [] [] (He.ma Γ.K (He.ga Γ.K "Poly") "divided") g
  mt_Poly_divided : Meth Γ.K (Γ.cls 1) "divided" (He.ma Γ.K (He.ga Γ.K "Poly") "divided")
  fd_Poly_divides : ∃ g, FunD Γ.K "divides" "Poly.divides" (defArgs st_Poly_divides) (defBody st_Poly_divides) (defScope st_Poly_divides) [] [] (He.ma Γ.K (He.ga Γ.K "Poly") "divides") g
  mt_Poly_divides : Meth Γ.K (Γ.cls 1) "divides" (He.ma Γ.K (He.ga Γ.K "Poly") "divides")
  fd_Poly_floordiv : ∃ g, FunD Γ.K "__floordiv__" "Poly.__floordiv__" (defArgs st_Poly_floordiv) (defBody st_Poly_floordiv) (defScope st_Poly_floordiv) [] [] (He.ma Γ.K (He.ga Γ.K "Poly") "__floordiv__") g
  mt_Poly_floordiv : Meth Γ.K (Γ.cls 1) "__floordiv__" (He.ma Γ.K (He.ga Γ.K "Poly") "__floordiv__")
  fd_Ratio_add : ∃ g, FunD Γ.K "__add__" "Ratio.__add__" (defArgs st_Ratio_add) (defBody st_Ratio_add) (defScope st_Ratio_add) [] [] (He.ma Γ.K (He.ga Γ.K "Ratio") "__add__") g
  mt_Ratio_add : Meth Γ.K (Γ.cls 0) "__add__" (He.ma Γ.K (He.ga Γ.K "Ratio") "__add__")
  fd_Poly_add : ∃ g, FunD Γ.K "__add__" "Poly.__add__" (defArgs st_Poly_add) (defBody st_Poly_add) (defScope st_Poly_add) [] [] (He.ma Γ.K (He.ga Γ.K "Poly") "__add__") g
  mt_Poly_add : Meth Γ.K (Γ.cls 1) "__add__" (He.ma Γ.K (He.ga Γ.K "Poly") "__add__")
  fd_Ratio_neg : ∃ g, FunD Γ.K "__neg__" "Ratio.__neg__" (defArgs st_Ratio_neg) (defBody st_Ratio_neg) (defScope st_Ratio_neg) [] [] (He.ma Γ.K (He.ga Γ.K "Ratio") "__neg__") g
  mt_Ratio_neg : Meth Γ.K (Γ.cls 0) "__neg__" (He.ma Γ.K (He.ga Γ.K "Ratio") "__neg__")
  fd_Poly_neg : ∃ g, FunD Γ.K "__neg__" "Poly.__neg__" (defArgs st_Poly_neg) (defBody st_Poly_neg) (defScope st_Poly_neg) [] [] (He.ma Γ.K (He.ga Γ.K "Poly") "__neg__") g
  mt_Poly_neg : Meth Γ.K (Γ.cls 1) "__neg__" (He.ma Γ.K (He.ga Γ.K "Poly") "__neg__")
  fd_Poly_sub : ∃ g, FunD Γ.K "__sub__" "Poly.__sub__" (defArgs st_Poly_sub) (defBody st_Poly_sub) (defScope st_Poly_sub) [] [] (He.ma Γ.K (He.ga Γ.K "Poly") "__sub__") g
  mt_Poly_sub : Meth Γ.K (Γ.cls 1) "__sub__" (He.ma Γ.K (He.ga Γ.K "Poly") "__sub__")
  fd_Poly_mul : ∃ g, FunD Γ.K "__mul__" "Poly.__mul__" (defArgs st_Poly_mul) (defBody st_Poly_mul) (defScope st_Poly_mul) [] [] (He.ma Γ.K (He.ga Γ.K "Poly") "__mul__") g
  mt_Poly_mul : Meth Γ.K (Γ.cls 1) "__mul__" (He.ma Γ.K (He.ga Γ.K "Poly") "__mul__")
  fd_Poly_scaled : ∃ g, FunD Γ.K "scaled" "Poly.scaled" (defArgs st_Poly_scaled) (defBody st_Poly_scaled) (defScope st_Poly_scaled) [] [] (He.ma Γ.K (He.ga Γ.K "Poly") "scaled") g
  mt_Poly_scaled : Meth Γ.K (Γ.cls 1) "scaled" (He.ma Γ.K (He.ga Γ.K "Poly") "scaled")
  fd_first_cofactor : ∃ g, FunD Γ.K "_first_cofactor" "_first_cofactor" (defArgs st_first_cofactor) (defBody st_first_cofactor) (defScope st_first_cofactor) [] [] (He.ga Γ.K "_first_cofactor") g
  g_first_cofactor : Glo Γ "_first_cofactor" (He.ga Γ.K "_first_cofactor")
  fd_Poly_mod : ∃ g, FunD Γ.K "__mod__" "Poly.__mod__" (defArgs st_Poly_mod) (defBody st_Poly_mod) (defScope st_Poly_mod) [] [] (He.ma Γ.K (He.ga Γ.K "Poly") "__mod__") g
  mt_Poly_mod : Meth Γ.K (Γ.cls 1) "__mod__" (He.ma Γ.K (He.ga Γ.K "Poly") "__mod__")
  fd_combine_to : ∃ g, FunD Γ.K "combine_to" "combine_to" (defArgs st_combine_to) (defBody st_combine_to) (defScope st_combine_to) [] [] (He.ga Γ.K "combine_to") g
  g_combine_to : Glo Γ "combine_to" (He.ga Γ.K "combine_to")
  fd_law_make : ∃ g, FunD Γ.K "_law_make" "_law_make" (defArgs st_law_make) (defBody st_law_make) (defScope st_law_make) [] [] (He.ga Γ.K "_law_make") g
  g_law_make : Glo Γ "_law_make" (He.ga Γ.K "_law_make")
  fd_law_is_integer : ∃ g, FunD Γ.K "_law_is_integer" "_law_is_integer" (defArgs st_law_is_integer) (defBody st_law_is_integer) (defScope st_law_is_integer) [] [] (He.ga Γ.K "_law_is_integer") g
  g_law_is_integer : Glo Γ "_law_is_integer" (He.ga Γ.K "_law_is_integer")
  fd_law_pair : ∃ g, FunD Γ.K "_law_pair" "_law_pair" (defArgs st_law_pair) (defBody st_law_pair) (defScope st_law_pair) [] [] (He.ga Γ.K "_law_pair") g
  g_law_pair : Glo Γ "_law_pair" (He.ga Γ.K "_law_pair")
  fd_law_row : ∃ g, FunD Γ.K "_law_row" "_law_row" (defArgs st_law_row) (defBody st_law_row) (defScope st_law_row) [] [] (He.ga Γ.K "_law_row") g
  g_law_row : Glo Γ "_law_row" (He.ga Γ.K "_law_row")
  fd_Poly_monic : ∃ g, FunD Γ.K "monic" "Poly.monic" (defArgs st_Poly_monic) (defBody st_Poly_monic) (defScope st_Poly_monic) [] [] (He.ma Γ.K (He.ga Γ.K "Poly") "monic") g
  mt_Poly_monic : Meth Γ.K (Γ.cls 1) "monic" (He.ma Γ.K (He.ga Γ.K "Poly") "monic")
  fd_Poly_degree : ∃ g, FunD Γ.K "degree" "Poly.degree" (defArgs st_Poly_degree) (defBody st_Poly_degree) (defScope st_Poly_degree) [] [] (He.ma Γ.K (He.ga Γ.K "Poly") "degree") g
  mt_Poly_degree : Meth Γ.K (Γ.cls 1) "degree" (He.ma Γ.K (He.ga Γ.K "Poly") "degree")
  fd_Poly_primitive : ∃ g, FunD Γ.K "primitive" "Poly.primitive" (defArgs st_Poly_primitive) (defBody st_Poly_primitive) (defScope st_Poly_primitive) [] [] (He.ma Γ.K (He.ga Γ.K "Poly") "primitive") g
  mt_Poly_primitive : Meth Γ.K (Γ.cls 1) "primitive" (He.ma Γ.K (He.ga Γ.K "Poly") "primitive")
  fd_primitive_row : ∃ g, FunD Γ.K "_primitive_row" "_primitive_row" (defArgs st_primitive_row) (defBody st_primitive_row) (defScope st_primitive_row) [] [] (He.ga Γ.K "_primitive_row") g
  g_primitive_row : Glo Γ "_primitive_row" (He.ga Γ.K "_primitive_row")
  fd_integer_rest : ∃ g, FunD Γ.K "_integer_rest" "_integer_rest" (defArgs st_integer_rest) (defBody st_integer_rest) (defScope st_integer_rest) [] [] (He.ga Γ.K "_integer_rest") g
  g_integer_rest : Glo Γ "_integer_rest" (He.ga Γ.K "_integer_rest")
  fd_common_divisor : ∃ g, FunD Γ.K "common_divisor" "common_divisor" (defArgs st_common_divisor) (defBody st_common_divisor) (defScope st_common_divisor) [] [] (He.ga Γ.K "common_divisor") g
  g_common_divisor : Glo Γ "common_divisor" (He.ga Γ.K "common_divisor")
  fd_law : ∃ g, FunD Γ.K "law" "law" (defArgs st_law) (defBody st_law) (defScope st_law) [] [] (He.ga Γ.K "law") g
  x_ZeroDivisor : ExcOk Γ 21 "ZeroDivisor"
  isi_Poly : IsiOk Γ (.ref (Γ.cls 1)) isi_Poly
  isi_Ratio : IsiOk Γ (.ref (Γ.cls 0)) isi_Ratio
  isi_bool : IsiOk Γ (.type "bool") isi_bool
  isi_int : IsiOk Γ (.type "int") isi_int
  isi_tuple : IsiOk Γ (.type "tuple") isi_tuple
theorem fld_Poly_row {Γ : Gam} (B : Base Γ) : FldOk Γ 1 0 "row" := ⟨by rw [B.fl_Poly] <;> rfl, by rw [B.fl_Poly]; decide, B.na_Poly_row⟩
theorem fld_Ratio_d {Γ : Gam} (B : Base Γ) : FldOk Γ 0 1 "d" := ⟨by rw [B.fl_Ratio] <;> rfl, by rw [B.fl_Ratio]; decide, B.na_Ratio_d⟩
theorem fld_Ratio_n {Γ : Gam} (B : Base Γ) : FldOk Γ 0 0 "n" := ⟨by rw [B.fl_Ratio] <;> rfl, by rw [B.fl_Ratio]; decide, B.na_Ratio_n⟩
/-! _law_cell -/
theorem sc_law_cell : FnScope ["_law_script", "_law_k"] ["_law_script", "_law_k"] (defScope st_law_cell) := ⟨rfl, rfl, rfl, by decide +kernel, rfl, by decide +kernel, by decide +kernel⟩
def b_law_cell : Env → Out :=
 (S.seq (S.ite (T.tst (E.op2 ltI (E.var 1) (E.len (Z.seq (E.var 0)))))
  (S.ret (E.ix (Z.seq (E.var 0)) (E.var 1)))
  S.skip)
  (S.ret (E.c (.int 0))))
theorem bd_law_cell {Γ : Gam} (T : Top Γ) (B : Base Γ) : Body Γ (40) ["_law_script", "_law_k"] "_law_cell" (defScope st_law_cell) (He.ga Γ.K "_law_cell") (defBody st_law_cell) b_law_cell := fun _ _ _ _ _ _ =>
 (dss_cons (ds_ite (dt_cmp od_lt ltI_n (de_var 1) (de_lenY (dy_seq (de_var 0)) B.n_len) (nomark _))
  (dss_one (ds_ret (de_ixY (dy_seq (de_var 0)) (de_var 1))))
  dss_nil)
  (dss_one (ds_ret de_int)))
def f_law_cell : List D → Res D := runD 2 2 b_law_cell
theorem ok_law_cell {Γ : Gam} (T : Top Γ) (B : Base Γ) : Cal Γ 41 (He.ga Γ.K "_law_cell") f_law_cell := cal_mk B.fd_law_cell sc_law_cell T (bd_law_cell T B) (fun _ _ _ _ _ _ us hl => match us, hl with | [_, _], _ => rfl)
/-! _law_draws -/
theorem sc_law_draws : FnScope ["_law_script", "_law_at", "_law_count", "_law_bound", "_law_cell_here", "_law_out", "_law_k", "_law_number", "_law_mixed"] ["_law_script", "_law_at", "_law_count", "_law_bound"] (defScope st_law_draws) := ⟨rfl, rfl, rfl, by decide +kernel, rfl, by decide +kernel, by decide +kernel⟩
def b_law_draws : Env → Out :=
 (S.seq (S.set 4 (E.app f_law_cell (E.cons (E.var 0) (E.cons (E.var 1) E.nil))))
  (S.seq (S.setF 5 (E.disp E.nil))
  (S.seq (S.ite (T.tst (E.op2 geI (E.var 4) (E.op2 powI (E.c (.int 10)) (E.c (.int 18)))))
  (S.seq (S.forE (E.rng1 (E.var 2)) (S.tgt 6)
  (S.seq (S.app 5 (E.op2 modI (E.op1 intC (E.var 4)) (E.var 3)))
  (S.set 4 (E.op2 fdivI (E.op1 intC (E.var 4)) (E.var 3)))))
  (S.retO 5))
  S.skip)
  (S.seq (S.set 7 (E.op2 addI (E.op2 addI (E.op2 modI (E.op1 intC (E.var 4)) (E.c (.int 2147483647))) (E.op2 mulI (E.c (.int 3)) (E.var 1))) (E.c (.int 1))))
  (S.seq (S.forE (E.rng1 (E.var 2)) (S.tgt 6)
  (S.seq (S.set 7 (E.op2 modI (E.op1 intC (E.op2 addI (E.op2 addI (E.op2 mulI (E.var 7) (E.c (.int 48271))) (E.op2 mulI (E.c (.int 11)) (E.var 6))) (E.var 1))) (E.c (.int 2147483647))))
  (S.seq (S.set 8 (E.op2 modI (E.op1 intC (E.op2 addI (E.op2 addI (E.op2 mulI (E.var 7) (E.c (.int 69621))) (E.op2 mulI (E.c (.int 5)) (E.var 6))) (E.c (.int 7)))) (E.c (.int 2147483629))))
  (S.app 5 (E.op2 modI (E.op1 intC (E.var 8)) (E.var 3))))))
  (S.retO 5))))))
theorem bd_law_draws {Γ : Gam} (T : Top Γ) (B : Base Γ) : Body Γ (41) ["_law_script", "_law_at", "_law_count", "_law_bound", "_law_cell_here", "_law_out", "_law_k", "_law_number", "_law_mixed"] "_law_draws" (defScope st_law_draws) (He.ga Γ.K "_law_draws") (defBody st_law_draws) b_law_draws := fun _ _ _ _ _ _ =>
 (dss_cons (ds_set 4 sc_law_draws.nd (he := (de_call B.g_law_cell (ok_law_cell T B) (da_cons (de_var 0) (da_cons (de_var 1) da_nil)))))
  (dss_cons (ds_setF 5 sc_law_draws.nd (he := (df_lst da_nil)))
  (dss_cons (ds_ite (dt_cmp od_ge geI_n (de_var 4) (de_op2 od_pow powI_n de_int de_int) (nomark _))
  (dss_cons (ds_for (di_rng1 (de_var 2) B.n_range) (dg_name 6 sc_law_draws.nd)
  (dss_cons (ds_app 5 (de_op2 od_mod modI_n (de_intC (de_var 4) B.n_int) (de_var 3)))
  (dss_one (ds_set 4 sc_law_draws.nd (he := (de_op2 od_fdiv fdivI_n (de_intC (de_var 4) B.n_int) (de_var 3)))))))
  (dss_one (ds_retO 5)))
  dss_nil)
  (dss_cons (ds_set 7 sc_law_draws.nd (he := (de_op2 od_add addI_n (de_op2 od_add addI_n (de_op2 od_mod modI_n (de_intC (de_var 4) B.n_int) de_int) (de_op2 od_mul mulI_n de_int (de_var 1))) de_int)))
  (dss_cons (ds_for (di_rng1 (de_var 2) B.n_range) (dg_name 6 sc_law_draws.nd)
  (dss_cons (ds_set 7 sc_law_draws.nd (he := (de_op2 od_mod modI_n (de_intC (de_op2 od_add addI_n (de_op2 od_add addI_n (de_op2 od_mul mulI_n (de_var 7) de_int) (de_op2 od_mul mulI_n de_int (de_var 6))) (de_var 1)) B.n_int) de_int)))
  (dss_cons (ds_set 8 sc_law_draws.nd (he := (de_op2 od_mod modI_n (de_intC (de_op2 od_add addI_n (de_op2 od_add addI_n (de_op2 od_mul mulI_n (de_var 7) de_int) (de_op2 od_mul mulI_n de_int (de_var 6))) de_int) B.n_int) de_int)))
  (dss_one (ds_app 5 (de_op2 od_mod modI_n (de_intC (de_var 8) B.n_int) (de_var 3)))))))
  (dss_one (ds_retO 5)))))))
def f_law_draws : List D → Res (List D) := runF 9 4 b_law_draws
theorem ok_law_draws {Γ : Gam} (T : Top Γ) (B : Base Γ) : CalF Γ 42 (He.ga Γ.K "_law_draws") f_law_draws := calF_mk B.fd_law_draws sc_law_draws T (bd_law_draws T B) (fun _ _ _ _ _ _ us hl => match us, hl with | [_, _, _, _], _ => rfl)
/-! _law_trim -/
theorem sc_law_trim : FnScope ["_law_row_here", "_law_size"] ["_law_row_here"] (defScope st_law_trim) := ⟨rfl, rfl, rfl, by decide +kernel, rfl, by decide +kernel, by decide +kernel⟩
def b_law_trim : Env → Out :=
 (S.seq (S.set 1 (E.len (Z.seq (E.var 0))))
  (S.seq (S.whil (fuelI 1) (T.and (T.tst (E.op2 gtI (E.var 1) (E.c (.int 0)))) (T.tst (E.op2 eqS (E.ix (Z.seq (E.ix (Z.seq (E.var 0)) (E.op2 subI (E.var 1) (E.c (.int 1))))) (E.c (.int 0))) (E.c (.int 0)))))
  (S.set 1 (E.op2 subI (E.var 1) (E.c (.int 1)))))
  (S.ret (E.asTup (E.cutL (Z.lst (E.var 0)) E.nopart (E.part (E.var 1)))))))
theorem bd_law_trim {Γ : Gam} (T : Top Γ) (B : Base Γ) : Body Γ (40) ["_law_row_here", "_law_size"] "_law_trim" (defScope st_law_trim) (He.ga Γ.K "_law_trim") (defBody st_law_trim) b_law_trim := fun _ _ _ _ _ _ =>
 (dss_cons (ds_set 1 sc_law_trim.nd (he := (de_lenY (dy_seq (de_var 0)) B.n_len)))
  (dss_cons (ds_while (fuelI 1) (dt_bool (dw_and (dt_cmp od_gt gtI_n (de_var 1) de_int (nomark _)) (dw_and1 (dt_cmp od_eqS eqS_n (de_ixY (dy_seq (de_ixY (dy_seq (de_var 0)) (de_op2 od_sub subI_n (de_var 1) de_int))) de_int) de_int (nomark _)))))
  (dss_one (ds_set 1 sc_law_trim.nd (he := (de_op2 od_sub subI_n (de_var 1) de_int)))))
  (dss_one (ds_ret (de_tuple (dq_df (df_cut (dq_lst (de_var 0)) dp_none (dp_some (de_var 1)))) B.n_tuple)))))
def f_law_trim : List D → Res D := runD 2 1 b_law_trim
theorem ok_law_trim {Γ : Gam} (T : Top Γ) (B : Base Γ) : Cal Γ 41 (He.ga Γ.K "_law_trim") f_law_trim := cal_mk B.fd_law_trim sc_law_trim T (bd_law_trim T B) (fun _ _ _ _ _ _ us hl => match us, hl with | [_], _ => rfl)
/-! _law_gcd -/
theorem sc_law_gcd : FnScope ["_law_a", "_law_b", "_law_one", "_law_two", "_law_rest"] ["_law_a", "_law_b"] (defScope st_law_gcd) := ⟨rfl, rfl, rfl, by decide +kernel, rfl, by decide +kernel, by decide +kernel⟩
def b_law_gcd : Env → Out :=
 (S.seq (S.set 2 (E.op1 absI (E.var 0)))
  (S.seq (S.set 3 (E.op1 absI (E.var 1)))
  (S.seq (S.whil (fuelI 3) (T.tst (E.op2 neS (E.var 3) (E.c (.int 0))))
  (S.seq (S.set 4 (E.op2 modI (E.op1 intC (E.var 2)) (E.var 3)))
  (S.seq (S.set 2 (E.var 3))
  (S.set 3 (E.var 4)))))
  (S.ret (E.var 2)))))
theorem bd_law_gcd {Γ : Gam} (T : Top Γ) (B : Base Γ) : Body Γ (40) ["_law_a", "_law_b", "_law_one", "_law_two", "_law_rest"] "_law_gcd" (defScope st_law_gcd) (He.ga Γ.K "_law_gcd") (defBody st_law_gcd) b_law_gcd := fun _ _ _ _ _ _ =>
 (dss_cons (ds_set 2 sc_law_gcd.nd (he := (de_abs (de_var 0) B.n_abs)))
  (dss_cons (ds_set 3 sc_law_gcd.nd (he := (de_abs (de_var 1) B.n_abs)))
  (dss_cons (ds_while (fuelI 3) (dt_cmp od_neS neS_n (de_var 3) de_int (nomark _))
  (dss_cons (ds_set 4 sc_law_gcd.nd (he := (de_op2 od_mod modI_n (de_intC (de_var 2) B.n_int) (de_var 3))))
  (dss_cons (ds_set 2 sc_law_gcd.nd (he := (de_var 3)))
  (dss_one (ds_set 3 sc_law_gcd.nd (he := (de_var 4)))))))
  (dss_one (ds_ret (de_var 2))))))
def f_law_gcd : List D → Res D := runD 5 2 b_law_gcd
theorem ok_law_gcd {Γ : Gam} (T : Top Γ) (B : Base Γ) : Cal Γ 41 (He.ga Γ.K "_law_gcd") f_law_gcd := cal_mk B.fd_law_gcd sc_law_gcd T (bd_law_gcd T B) (fun _ _ _ _ _ _ us hl => match us, hl with | [_, _], _ => rfl)
/-! _law_rat -/
theorem sc_law_rat : FnScope ["_law_n", "_law_d", "_law_common"] ["_law_n", "_law_d"] (defScope st_law_rat) := ⟨rfl, rfl, rfl, by decide +kernel, rfl, by decide +kernel, by decide +kernel⟩
def b_law_rat : Env → Out :=
 (S.seq (S.set 2 (E.app f_law_gcd (E.cons (E.var 0) (E.cons (E.var 1) E.nil))))
  (S.seq (S.ite (T.tst (E.op2 ltI (E.var 1) (E.c (.int 0))))
  (S.set 2 (E.op1 negI (E.var 2)))
  S.skip)
  (S.ret (E.tupl (E.cons (E.op2 fdivI (E.var 0) (E.var 2)) (E.cons (E.op2 fdivI (E.var 1) (E.var 2)) E.nil))))))
theorem bd_law_rat {Γ : Gam} (T : Top Γ) (B : Base Γ) : Body Γ (41) ["_law_n", "_law_d", "_law_common"] "_law_rat" (defScope st_law_rat) (He.ga Γ.K "_law_rat") (defBody st_law_rat) b_law_rat := fun _ _ _ _ _ _ =>
 (dss_cons (ds_set 2 sc_law_rat.nd (he := (de_call B.g_law_gcd (ok_law_gcd T B) (da_cons (de_var 0) (da_cons (de_var 1) da_nil)))))
  (dss_cons (ds_ite (dt_cmp od_lt ltI_n (de_var 1) de_int (nomark _))
  (dss_one (ds_set 2 sc_law_rat.nd (he := (de_neg (de_var 2)))))
  dss_nil)
  (dss_one (ds_ret (de_tupl (da_cons (de_op2 od_fdiv fdivI_n (de_var 0) (de_var 2)) (da_cons (de_op2 od_fdiv fdivI_n (de_var 1) (de_var 2)) da_nil)))))))
def f_law_rat : List D → Res D := runD 3 2 b_law_rat
theorem ok_law_rat {Γ : Gam} (T : Top Γ) (B : Base Γ) : Cal Γ 42 (He.ga Γ.K "_law_rat") f_law_rat := cal_mk B.fd_law_rat sc_law_rat T (bd_law_rat T B) (fun _ _ _ _ _ _ us hl => match us, hl with | [_, _], _ => rfl)
/-! _law_small -/
theorem sc_law_small : FnScope ["_law_n", "_law_d"] ["_law_n", "_law_d"] (defScope st_law_small) := ⟨rfl, rfl, rfl, by decide +kernel, rfl, by decide +kernel, by decide +kernel⟩
def b_law_small : Env → Out :=
 (S.ret (E.app f_law_rat (E.cons (E.op2 subI (E.op2 modI (E.var 0) (E.c (.int 19))) (E.c (.int 9))) (E.cons (E.op2 addI (E.op2 modI (E.var 1) (E.c (.int 5))) (E.c (.int 1))) E.nil))))
theorem bd_law_small {Γ : Gam} (T : Top Γ) (B : Base Γ) : Body Γ (42) ["_law_n", "_law_d"] "_law_small" (defScope st_law_small) (He.ga Γ.K "_law_small") (defBody st_law_small) b_law_small := fun _ _ _ _ _ _ =>
 (dss_one (ds_ret (de_call B.g_law_rat (ok_law_rat T B) (da_cons (de_op2 od_sub subI_n (de_op2 od_mod modI_n (de_var 0) de_int) de_int) (da_cons (de_op2 od_add addI_n (de_op2 od_mod modI_n (de_var 1) de_int) de_int) da_nil)))))
def f_law_small : List D → Res D := runD 2 2 b_law_small
theorem ok_law_small {Γ : Gam} (T : Top Γ) (B : Base Γ) : Cal Γ 43 (He.ga Γ.K "_law_small") f_law_small := cal_mk B.fd_law_small sc_law_small T (bd_law_small T B) (fun _ _ _ _ _ _ us hl => match us, hl with | [_, _], _ => rfl)
/-! _law_add -/
theorem sc_law_add : FnScope ["_law_a", "_law_b"] ["_law_a", "_law_b"] (defScope st_law_add) := ⟨rfl, rfl, rfl, by decide +kernel, rfl, by decide +kernel, by decide +kernel⟩
def b_law_add : Env → Out :=
 (S.ret (E.app f_law_rat (E.cons (E.op2 addI (E.op2 mulI (E.ix (Z.seq (E.var 0)) (E.c (.int 0))) (E.ix (Z.seq (E.var 1)) (E.c (.int 1)))) (E.op2 mulI (E.ix (Z.seq (E.var 1)) (E.c (.int 0))) (E.ix (Z.seq (E.var 0)) (E.c (.int 1))))) (E.cons (E.op2 mulI (E.ix (Z.seq (E.var 0)) (E.c (.int 1))) (E.ix (Z.seq (E.var 1)) (E.c (.int 1)))) E.nil))))
theorem bd_law_add {Γ : Gam} (T : Top Γ) (B : Base Γ) : Body Γ (42) ["_law_a", "_law_b"] "_law_add" (defScope st_law_add) (He.ga Γ.K "_law_add") (defBody st_law_add) b_law_add := fun _ _ _ _ _ _ =>
 (dss_one (ds_ret (de_call B.g_law_rat (ok_law_rat T B) (da_cons (de_op2 od_add addI_n (de_op2 od_mul mulI_n (de_ixY (dy_seq (de_var 0)) de_int) (de_ixY (dy_seq (de_var 1)) de_int)) (de_op2 od_mul mulI_n (de_ixY (dy_seq (de_var 1)) de_int) (de_ixY (dy_seq (de_var 0)) de_int))) (da_cons (de_op2 od_mul mulI_n (de_ixY (dy_seq (de_var 0)) de_int) (de_ixY (dy_seq (de_var 1)) de_int)) da_nil)))))
def f_law_add : List D → Res D := runD 2 2 b_law_add
theorem ok_law_add {Γ : Gam} (T : Top Γ) (B : Base Γ) : Cal Γ 43 (He.ga Γ.K "_law_add") f_law_add := cal_mk B.fd_law_add sc_law_add T (bd_law_add T B) (fun _ _ _ _ _ _ us hl => match us, hl with | [_, _], _ => rfl)
/-! _law_mul -/
theorem sc_law_mul : FnScope ["_law_a", "_law_b"] ["_law_a", "_law_b"] (defScope st_law_mul) := ⟨rfl, rfl, rfl, by decide +kernel, rfl, by decide +kernel, by decide +kernel⟩
def b_law_mul : Env → Out :=
 (S.ret (E.app f_law_rat (E.cons (E.op2 mulI (E.ix (Z.seq (E.var 0)) (E.c (.int 0))) (E.ix (Z.seq (E.var 1)) (E.c (.int 0)))) (E.cons (E.op2 mulI (E.ix (Z.seq (E.var 0)) (E.c (.int 1))) (E.ix (Z.seq (E.var 1)) (E.c (.int 1)))) E.nil))))
theorem bd_law_mul {Γ : Gam} (T : Top Γ) (B : Base Γ) : Body Γ (42) ["_law_a", "_law_b"] "_law_mul" (defScope st_law_mul) (He.ga Γ.K "_law_mul") (defBody st_law_mul) b_law_mul := fun _ _ _ _ _ _ =>
 (dss_one (ds_ret (de_call B.g_law_rat (ok_law_rat T B) (da_cons (de_op2 od_mul mulI_n (de_ixY (dy_seq (de_var 0)) de_int) (de_ixY (dy_seq (de_var 1)) de_int)) (da_cons (de_op2 od_mul mulI_n (de_ixY (dy_seq (de_var 0)) de_int) (de_ixY (dy_seq (de_var 1)) de_int)) da_nil)))))
def f_law_mul : List D → Res D := runD 2 2 b_law_mul
theorem ok_law_mul {Γ : Gam} (T : Top Γ) (B : Base Γ) : Cal Γ 43 (He.ga Γ.K "_law_mul") f_law_mul := cal_mk B.fd_law_mul sc_law_mul T (bd_law_mul T B) (fun _ _ _ _ _ _ us hl => match us, hl with | [_, _], _ => rfl)
/-! _law_pmul -/
theorem sc_law_pmul : FnScope ["_law_p", "_law_q", "_law_out", "_law_k", "_law_j"] ["_law_p", "_law_q"] (defScope st_law_pmul) := ⟨rfl, rfl, rfl, by decide +kernel, rfl, by decide +kernel, by decide +kernel⟩
def b_law_pmul : Env → Out :=
 (S.seq (S.setF 2 (E.comp [3] (E.rng1 (E.op2 addI (E.len (Z.seq (E.var 0))) (E.len (Z.seq (E.var 1))))) (S.tgt 3) T.yes (E.tupl (E.cons (E.c (.int 0)) (E.cons (E.c (.int 1)) E.nil)))))
  (S.seq (S.forE (E.rng1 (E.len (Z.seq (E.var 0)))) (S.tgt 3)
  (S.forE (E.rng1 (E.len (Z.seq (E.var 1)))) (S.tgt 4)
  (S.setAt 2 (E.op2 addI (E.var 3) (E.var 4)) (E.app f_law_add (E.cons (E.ix (Z.own 2) (E.op2 addI (E.var 3) (E.var 4))) (E.cons (E.app f_law_mul (E.cons (E.ix (Z.seq (E.var 0)) (E.var 3)) (E.cons (E.ix (Z.seq (E.var 1)) (E.var 4)) E.nil))) E.nil))))))
  (S.freeze 2 (S.ret (E.app f_law_trim (E.cons (E.var 2) E.nil))))))
theorem bd_law_pmul {Γ : Gam} (T : Top Γ) (B : Base Γ) : Body Γ (43) ["_law_p", "_law_q", "_law_out", "_law_k", "_law_j"] "_law_pmul" (defScope st_law_pmul) (He.ga Γ.K "_law_pmul") (defBody st_law_pmul) b_law_pmul := fun _ _ _ _ _ _ =>
 (dss_cons (ds_setFLc 2 [("_law_k", 3)] sc_law_pmul.nd (dc_di (di_rng1 (de_op2 od_add addI_n (de_lenY (dy_seq (de_var 0)) B.n_len) (de_lenY (dy_seq (de_var 1)) B.n_len)) B.n_range)) (fun _ _ _ _ _ => (dgw_name 3 sc_law_pmul.nd)) (fun _ _ _ _ _ => dts_nil) (fun _ _ _ _ _ => (de_tupl (da_cons de_int (da_cons de_int da_nil)))))
  (dss_cons (ds_for (di_rng1 (de_lenY (dy_seq (de_var 0)) B.n_len) B.n_range) (dg_name 3 sc_law_pmul.nd)
  (dss_one (ds_for (di_rng1 (de_lenY (dy_seq (de_var 1)) B.n_len) B.n_range) (dg_name 4 sc_law_pmul.nd)
  (dss_one (ds_setAt 2 (de_call B.g_law_add (ok_law_add T B) (da_cons (de_ixY (dy_dq (dq_own 2)) (de_op2 od_add addI_n (de_var 3) (de_var 4))) (da_cons (de_call B.g_law_mul (ok_law_mul T B) (da_cons (de_ixY (dy_seq (de_var 0)) (de_var 3)) (da_cons (de_ixY (dy_seq (de_var 1)) (de_var 4)) da_nil))) da_nil))) (de_op2 od_add addI_n (de_var 3) (de_var 4)))))))
  (dss_freeze 2 (dss_one (ds_ret (de_call B.g_law_trim (ok_law_trim T B) (da_cons (de_var 2) da_nil)))))))
def f_law_pmul : List D → Res D := runD 5 2 b_law_pmul
theorem ok_law_pmul {Γ : Gam} (T : Top Γ) (B : Base Γ) : Cal Γ 44 (He.ga Γ.K "_law_pmul") f_law_pmul := cal_mk B.fd_law_pmul sc_law_pmul T (bd_law_pmul T B) (fun _ _ _ _ _ _ us hl => match us, hl with | [_, _], _ => rfl)
/-! _law_poly -/
theorem sc_law_poly : FnScope ["_law_row_here", "_law_size", "_law_k"] ["_law_row_here", "_law_size"] (defScope st_law_poly) := ⟨rfl, rfl, rfl, by decide +kernel, rfl, by decide +kernel, by decide +kernel⟩
def b_law_poly : Env → Out :=
 (S.ret (E.app f_law_trim (E.cons (E.lst (E.comp [2] (E.rng1 (E.var 1)) (S.tgt 2) T.yes (E.app f_law_small (E.cons (E.ix (Z.seq (E.var 0)) (E.op2 mulI (E.c (.int 2)) (E.var 2))) (E.cons (E.ix (Z.seq (E.var 0)) (E.op2 addI (E.op2 mulI (E.c (.int 2)) (E.var 2)) (E.c (.int 1)))) E.nil))))) E.nil)))
theorem bd_law_poly {Γ : Gam} (T : Top Γ) (B : Base Γ) : Body Γ (43) ["_law_row_here", "_law_size", "_law_k"] "_law_poly" (defScope st_law_poly) (He.ga Γ.K "_law_poly") (defBody st_law_poly) b_law_poly := fun _ _ _ _ _ _ =>
 (dss_one (ds_ret (de_call B.g_law_trim (ok_law_trim T B) (da_cons (de_lst (df_lc [("_law_k", 2)] sc_law_poly.nd (dc_di (di_rng1 (de_var 1) B.n_range)) (fun _ _ _ _ _ => (dgw_name 2 sc_law_poly.nd)) (fun _ _ _ _ _ => dts_nil) (fun _ _ _ _ _ => (de_call B.g_law_small (ok_law_small T B) (da_cons (de_ixY (dy_seq (de_var 0)) (de_op2 od_mul mulI_n de_int (de_var 2))) (da_cons (de_ixY (dy_seq (de_var 0)) (de_op2 od_add addI_n (de_op2 od_mul mulI_n de_int (de_var 2)) de_int)) da_nil)))))) da_nil))))
def f_law_poly : List D → Res D := runD 3 2 b_law_poly
theorem ok_law_poly {Γ : Gam} (T : Top Γ) (B : Base Γ) : Cal Γ 44 (He.ga Γ.K "_law_poly") f_law_poly := cal_mk B.fd_law_poly sc_law_poly T (bd_law_poly T B) (fun _ _ _ _ _ _ us hl => match us, hl with | [_, _], _ => rfl)
/-! _law_padd -/
theorem sc_law_padd : FnScope ["_law_p", "_law_q", "_law_out", "_law_k", "_law_a", "_law_b"] ["_law_p", "_law_q"] (defScope st_law_padd) := ⟨rfl, rfl, rfl, by decide +kernel, rfl, by decide +kernel, by decide +kernel⟩
def b_law_padd : Env → Out :=
 (S.seq (S.setF 2 (E.disp E.nil))
  (S.seq (S.forE (E.rng1 (E.op2 maxI (E.len (Z.seq (E.var 0))) (E.len (Z.seq (E.var 1))))) (S.tgt 3)
  (S.seq (S.set 4 (E.ite (T.tst (E.op2 ltI (E.var 3) (E.len (Z.seq (E.var 0))))) (E.ix (Z.seq (E.var 0)) (E.var 3)) (E.tupl (E.cons (E.c (.int 0)) (E.cons (E.c (.int 1)) E.nil)))))
  (S.seq (S.set 5 (E.ite (T.tst (E.op2 ltI (E.var 3) (E.len (Z.seq (E.var 1))))) (E.ix (Z.seq (E.var 1)) (E.var 3)) (E.tupl (E.cons (E.c (.int 0)) (E.cons (E.c (.int 1)) E.nil)))))
  (S.app 2 (E.app f_law_add (E.cons (E.var 4) (E.cons (E.var 5) E.nil)))))))
  (S.freeze 2 (S.ret (E.app f_law_trim (E.cons (E.var 2) E.nil))))))
theorem bd_law_padd {Γ : Gam} (T : Top Γ) (B : Base Γ) : Body Γ (43) ["_law_p", "_law_q", "_law_out", "_law_k", "_law_a", "_law_b"] "_law_padd" (defScope st_law_padd) (He.ga Γ.K "_law_padd") (defBody st_law_padd) b_law_padd := fun _ _ _ _ _ _ =>
 (dss_cons (ds_setF 2 sc_law_padd.nd (he := (df_lst da_nil)))
  (dss_cons (ds_for (di_rng1 (de_max2 (de_lenY (dy_seq (de_var 0)) B.n_len) (de_lenY (dy_seq (de_var 1)) B.n_len) B.n_max) B.n_range) (dg_name 3 sc_law_padd.nd)
  (dss_cons (ds_set 4 sc_law_padd.nd (he := (de_ite (dt_cmp od_lt ltI_n (de_var 3) (de_lenY (dy_seq (de_var 0)) B.n_len) (nomark _)) (de_ixY (dy_seq (de_var 0)) (de_var 3)) (de_tupl (da_cons de_int (da_cons de_int da_nil))))))
  (dss_cons (ds_set 5 sc_law_padd.nd (he := (de_ite (dt_cmp od_lt ltI_n (de_var 3) (de_lenY (dy_seq (de_var 1)) B.n_len) (nomark _)) (de_ixY (dy_seq (de_var 1)) (de_var 3)) (de_tupl (da_cons de_int (da_cons de_int da_nil))))))
  (dss_one (ds_app 2 (de_call B.g_law_add (ok_law_add T B) (da_cons (de_var 4) (da_cons (de_var 5) da_nil))))))))
  (dss_freeze 2 (dss_one (ds_ret (de_call B.g_law_trim (ok_law_trim T B) (da_cons (de_var 2) da_nil)))))))
def f_law_padd : List D → Res D := runD 6 2 b_law_padd
theorem ok_law_padd {Γ : Gam} (T : Top Γ) (B : Base Γ) : Cal Γ 44 (He.ga Γ.K "_law_padd") f_law_padd := cal_mk B.fd_law_padd sc_law_padd T (bd_law_padd T B) (fun _ _ _ _ _ _ us hl => match us, hl with | [_, _], _ => rfl)
/-! Poly.is_zero -/
theorem sc_Poly_is_zero : FnScope ["self"] ["self"] (defScope st_Poly_is_zero) := ⟨rfl, rfl, rfl, by decide +kernel, rfl, by decide +kernel, by decide +kernel⟩
def b_Poly_is_zero : Env → Out :=
 (S.ret (E.op2 eqS (E.len (Z.seq (E.fld 1 0 (E.var 0)))) (E.c (.int 0))))
theorem no_Poly_is_zero {Γ : Gam} (B : Base Γ) : ("is_zero" : Str) ∉ Γ.fld 1 := by rw [B.fl_Poly]; decide
theorem bd_Poly_is_zero {Γ : Gam} (T : Top Γ) (B : Base Γ) : Body Γ (40) ["self"] "Poly.is_zero" (defScope st_Poly_is_zero) (He.ma Γ.K (He.ga Γ.K "Poly") "is_zero") (defBody st_Poly_is_zero) b_Poly_is_zero := fun _ _ _ _ _ _ =>
 (dss_one (ds_ret (de_cmp od_eqS eqS_n (de_lenY (dy_seq (de_fld B.k_Poly (fld_Poly_row B) (de_var 0))) B.n_len) de_int (nomark _))))
def f_Poly_is_zero : List D → Res D := runD 1 1 b_Poly_is_zero
theorem ok_Poly_is_zero {Γ : Gam} (T : Top Γ) (B : Base Γ) : Cal Γ 41 (He.ma Γ.K (He.ga Γ.K "Poly") "is_zero") f_Poly_is_zero := cal_mk B.fd_Poly_is_zero sc_Poly_is_zero T (bd_Poly_is_zero T B) (fun _ _ _ _ _ _ us hl => match us, hl with | [_], _ => rfl)
theorem calM_Poly_is_zero {Γ : Gam} (T : Top Γ) (B : Base Γ) : CalM Γ 41 1 "is_zero" f_Poly_is_zero := ⟨⟨_, B.mt_Poly_is_zero, ok_Poly_is_zero T B⟩, no_Poly_is_zero B⟩
/-! Ratio.__init__ -/
theorem sc_Ratio_init : FnScope ["self", "n", "d", "common"] ["self", "n", "d"] (defScope st_Ratio_init) := ⟨rfl, rfl, rfl, by decide +kernel, rfl, by decide +kernel, by decide +kernel⟩
def b_Ratio_init : Env → Out :=
 (S.seq (S.ite (T.tst (E.op2 eqS (E.var 2) (E.c (.int 0))))
  (S.raise 21)
  S.skip)
  (S.seq (S.set 3 (E.ite (T.tst (E.op2 gtI (E.var 2) (E.c (.int 0)))) (E.op2 gcdI (E.var 1) (E.var 2)) (E.op1 negI (E.op2 gcdI (E.var 1) (E.var 2)))))
  (S.seq (S.fld 0 0 0 (E.op2 fdivI (E.var 1) (E.var 3)))
  (S.fld 0 0 1 (E.op2 fdivI (E.var 2) (E.var 3))))))
theorem bd_Ratio_init {Γ : Gam} (T : Top Γ) (B : Base Γ) : Body Γ (40) ["self", "n", "d", "common"] "Ratio.__init__" (defScope st_Ratio_init) (He.ma Γ.K (He.ga Γ.K "Ratio") "__init__") (defBody st_Ratio_init) b_Ratio_init := fun _ _ _ _ _ _ =>
 (dss_cons (ds_ite (dt_cmp od_eqS eqS_n (de_var 2) de_int (nomark _))
  (dss_one (ds_raise B.x_ZeroDivisor))
  dss_nil)
  (dss_cons (ds_set 3 sc_Ratio_init.nd (he := (de_ite (dt_cmp od_gt gtI_n (de_var 2) de_int (nomark _)) (de_gcd (de_var 1) (de_var 2) B.gcd) (de_neg (de_gcd (de_var 1) (de_var 2) B.gcd)))))
  (dss_cons (ds_fld 0 B.k_Ratio (fld_Ratio_n B) (de_op2 od_fdiv fdivI_n (de_var 1) (de_var 3)))
  (dss_one (ds_fld 0 B.k_Ratio (fld_Ratio_d B) (de_op2 od_fdiv fdivI_n (de_var 2) (de_var 3)))))))
def f_Ratio_init_1 : List D → Res (List D) := fun as => runI 0 4 2 b_Ratio_init (as ++ [(.int 1)])
theorem calI_Ratio_1 {Γ : Gam} (T : Top Γ) (B : Base Γ) : CalI Γ 41 0 f_Ratio_init_1 := calI_mkJ (m := 2) (jd := 0) (N := ["n", "d", "common"]) B.fd_Ratio_init B.mk_Ratio sc_Ratio_init T (bd_Ratio_init T B) (fun _ _ _ _ _ _ _ us its hl hi => match us, its, hl, hi with | [_, _], [_], _, _ => ⟨_, rfl, rfl⟩) (List.cons_ne_nil _ _) rfl (fun _ _ => (.cons (by rw [Rp]) .nil))
def f_Ratio_init_2 : List D → Res (List D) := fun as => runI 0 4 2 b_Ratio_init (as ++ [])
theorem calI_Ratio_2 {Γ : Gam} (T : Top Γ) (B : Base Γ) : CalI Γ 41 0 f_Ratio_init_2 := calI_mkJ (m := 3) (jd := 1) (N := ["n", "d", "common"]) B.fd_Ratio_init B.mk_Ratio sc_Ratio_init T (bd_Ratio_init T B) (fun _ _ _ _ _ _ _ us its hl hi => match us, its, hl, hi with | [_, _, _], [_], _, _ => ⟨_, rfl, rfl⟩) (List.cons_ne_nil _ _) rfl (fun _ _ => .nil)
/-! Ratio.inverse -/
theorem sc_Ratio_inverse : FnScope ["self"] ["self"] (defScope st_Ratio_inverse) := ⟨rfl, rfl, rfl, by decide +kernel, rfl, by decide +kernel, by decide +kernel⟩
def b_Ratio_inverse : Env → Out :=
 (S.ret (E.app (objR 0 f_Ratio_init_2) (E.cons (E.fld 0 1 (E.var 0)) (E.cons (E.fld 0 0 (E.var 0)) E.nil))))
theorem no_Ratio_inverse {Γ : Gam} (B : Base Γ) : ("inverse" : Str) ∉ Γ.fld 0 := by rw [B.fl_Ratio]; decide
theorem bd_Ratio_inverse {Γ : Gam} (T : Top Γ) (B : Base Γ) : Body Γ (42) ["self"] "Ratio.inverse" (defScope st_Ratio_inverse) (He.ma Γ.K (He.ga Γ.K "Ratio") "inverse") (defBody st_Ratio_inverse) b_Ratio_inverse := fun _ _ _ _ _ _ =>
 (dss_one (ds_ret (de_make B.k_Ratio (calI_Ratio_2 T B) (da_cons (de_fld B.k_Ratio (fld_Ratio_d B) (de_var 0)) (da_cons (de_fld B.k_Ratio (fld_Ratio_n B) (de_var 0)) da_nil)))))
def f_Ratio_inverse : List D → Res D := runD 1 1 b_Ratio_inverse
theorem ok_Ratio_inverse {Γ : Gam} (T : Top Γ) (B : Base Γ) : Cal Γ 43 (He.ma Γ.K (He.ga Γ.K "Ratio") "inverse") f_Ratio_inverse := cal_mk B.fd_Ratio_inverse sc_Ratio_inverse T (bd_Ratio_inverse T B) (fun _ _ _ _ _ _ us hl => match us, hl with | [_], _ => rfl)
theorem calM_Ratio_inverse {Γ : Gam} (T : Top Γ) (B : Base Γ) : CalM Γ 43 0 "inverse" f_Ratio_inverse := ⟨⟨_, B.mt_Ratio_inverse, ok_Ratio_inverse T B⟩, no_Ratio_inverse B⟩
/-! Poly.last -/
theorem sc_Poly_last : FnScope ["self"] ["self"] (defScope st_Poly_last) := ⟨rfl, rfl, rfl, by decide +kernel, rfl, by decide +kernel, by decide +kernel⟩
def b_Poly_last : Env → Out :=
 (S.seq (S.ite (T.tst (E.op2 eqS (E.len (Z.seq (E.fld 1 0 (E.var 0)))) (E.c (.int 0))))
  (S.raise 21)
  S.skip)
  (S.ret (E.ix (Z.seq (E.fld 1 0 (E.var 0))) (E.op2 subI (E.len (Z.seq (E.fld 1 0 (E.var 0)))) (E.c (.int 1))))))
theorem no_Poly_last {Γ : Gam} (B : Base Γ) : ("last" : Str) ∉ Γ.fld 1 := by rw [B.fl_Poly]; decide
theorem bd_Poly_last {Γ : Gam} (T : Top Γ) (B : Base Γ) : Body Γ (40) ["self"] "Poly.last" (defScope st_Poly_last) (He.ma Γ.K (He.ga Γ.K "Poly") "last") (defBody st_Poly_last) b_Poly_last := fun _ _ _ _ _ _ =>
 (dss_cons (ds_ite (dt_cmp od_eqS eqS_n (de_lenY (dy_seq (de_fld B.k_Poly (fld_Poly_row B) (de_var 0))) B.n_len) de_int (nomark _))
  (dss_one (ds_raise B.x_ZeroDivisor))
  dss_nil)
  (dss_one (ds_ret (de_ixY (dy_seq (de_fld B.k_Poly (fld_Poly_row B) (de_var 0))) (de_op2 od_sub subI_n (de_lenY (dy_seq (de_fld B.k_Poly (fld_Poly_row B) (de_var 0))) B.n_len) de_int)))))
def f_Poly_last : List D → Res D := runD 1 1 b_Poly_last
theorem ok_Poly_last {Γ : Gam} (T : Top Γ) (B : Base Γ) : Cal Γ 41 (He.ma Γ.K (He.ga Γ.K "Poly") "last") f_Poly_last := cal_mk B.fd_Poly_last sc_Poly_last T (bd_Poly_last T B) (fun _ _ _ _ _ _ us hl => match us, hl with | [_], _ => rfl)
theorem calM_Poly_last {Γ : Gam} (T : Top Γ) (B : Base Γ) : CalM Γ 41 1 "last" f_Poly_last := ⟨⟨_, B.mt_Poly_last, ok_Poly_last T B⟩, no_Poly_last B⟩
/-! Ratio.__mul__ -/
theorem sc_Ratio_mul : FnScope ["self", "other"] ["self", "other"] (defScope st_Ratio_mul) := ⟨rfl, rfl, rfl, by decide +kernel, rfl, by decide +kernel, by decide +kernel⟩
def b_Ratio_mul : Env → Out :=
 (S.ret (E.app (objR 0 f_Ratio_init_2) (E.cons (E.op2 mulI (E.fld 0 0 (E.var 0)) (E.fld 0 0 (E.var 1))) (E.cons (E.op2 mulI (E.fld 0 1 (E.var 0)) (E.fld 0 1 (E.var 1))) E.nil))))
theorem no_Ratio_mul {Γ : Gam} (B : Base Γ) : ("__mul__" : Str) ∉ Γ.fld 0 := by rw [B.fl_Ratio]; decide
theorem bd_Ratio_mul {Γ : Gam} (T : Top Γ) (B : Base Γ) : Body Γ (42) ["self", "other"] "Ratio.__mul__" (defScope st_Ratio_mul) (He.ma Γ.K (He.ga Γ.K "Ratio") "__mul__") (defBody st_Ratio_mul) b_Ratio_mul := fun _ _ _ _ _ _ =>
 (dss_one (ds_ret (de_make B.k_Ratio (calI_Ratio_2 T B) (da_cons (de_op2 od_mul mulI_n (de_fld B.k_Ratio (fld_Ratio_n B) (de_var 0)) (de_fld B.k_Ratio (fld_Ratio_n B) (de_var 1))) (da_cons (de_op2 od_mul mulI_n (de_fld B.k_Ratio (fld_Ratio_d B) (de_var 0)) (de_fld B.k_Ratio (fld_Ratio_d B) (de_var 1))) da_nil)))))
def f_Ratio_mul : List D → Res D := runD 2 2 b_Ratio_mul
theorem ok_Ratio_mul {Γ : Gam} (T : Top Γ) (B : Base Γ) : Cal Γ 43 (He.ma Γ.K (He.ga Γ.K "Ratio") "__mul__") f_Ratio_mul := cal_mk B.fd_Ratio_mul sc_Ratio_mul T (bd_Ratio_mul T B) (fun _ _ _ _ _ _ us hl => match us, hl with | [_, _], _ => rfl)
theorem calM_Ratio_mul {Γ : Gam} (T : Top Γ) (B : Base Γ) : CalM Γ 43 0 "__mul__" f_Ratio_mul := ⟨⟨_, B.mt_Ratio_mul, ok_Ratio_mul T B⟩, no_Ratio_mul B⟩
/-! Ratio.__sub__ -/
theorem sc_Ratio_sub : FnScope ["self", "other"] ["self", "other"] (defScope st_Ratio_sub) := ⟨rfl, rfl, rfl, by decide +kernel, rfl, by decide +kernel, by decide +kernel⟩
def b_Ratio_sub : Env → Out :=
 (S.ret (E.app (objR 0 f_Ratio_init_2) (E.cons (E.op2 subI (E.op2 mulI (E.fld 0 0 (E.var 0)) (E.fld 0 1 (E.var 1))) (E.op2 mulI (E.fld 0 0 (E.var 1)) (E.fld 0 1 (E.var 0)))) (E.cons (E.op2 mulI (E.fld 0 1 (E.var 0)) (E.fld 0 1 (E.var 1))) E.nil))))
theorem no_Ratio_sub {Γ : Gam} (B : Base Γ) : ("__sub__" : Str) ∉ Γ.fld 0 := by rw [B.fl_Ratio]; decide
theorem bd_Ratio_sub {Γ : Gam} (T : Top Γ) (B : Base Γ) : Body Γ (42) ["self", "other"] "Ratio.__sub__" (defScope st_Ratio_sub) (He.ma Γ.K (He.ga Γ.K "Ratio") "__sub__") (defBody st_Ratio_sub) b_Ratio_sub := fun _ _ _ _ _ _ =>
 (dss_one (ds_ret (de_make B.k_Ratio (calI_Ratio_2 T B) (da_cons (de_op2 od_sub subI_n (de_op2 od_mul mulI_n (de_fld B.k_Ratio (fld_Ratio_n B) (de_var 0)) (de_fld B.k_Ratio (fld_Ratio_d B) (de_var 1))) (de_op2 od_mul mulI_n (de_fld B.k_Ratio (fld_Ratio_n B) (de_var 1)) (de_fld B.k_Ratio (fld_Ratio_d B) (de_var 0)))) (da_cons (de_op2 od_mul mulI_n (de_fld B.k_Ratio (fld_Ratio_d B) (de_var 0)) (de_fld B.k_Ratio (fld_Ratio_d B) (de_var 1))) da_nil)))))
def f_Ratio_sub : List D → Res D := runD 2 2 b_Ratio_sub
theorem ok_Ratio_sub {Γ : Gam} (T : Top Γ) (B : Base Γ) : Cal Γ 43 (He.ma Γ.K (He.ga Γ.K "Ratio") "__sub__") f_Ratio_sub := cal_mk B.fd_Ratio_sub sc_Ratio_sub T (bd_Ratio_sub T B) (fun _ _ _ _ _ _ us hl => match us, hl with | [_, _], _ => rfl)
theorem calM_Ratio_sub {Γ : Gam} (T : Top Γ) (B : Base Γ) : CalM Γ 43 0 "__sub__" f_Ratio_sub := ⟨⟨_, B.mt_Ratio_sub, ok_Ratio_sub T B⟩, no_Ratio_sub B⟩
/-! _trimmed -/
theorem sc_trimmed : FnScope ["row", "size"] ["row"] (defScope st_trimmed) := ⟨rfl, rfl, rfl, by decide +kernel, rfl, by decide +kernel, by decide +kernel⟩
def b_trimmed : Env → Out :=
 (S.seq (S.set 1 (E.len (Z.seq (E.var 0))))
  (S.seq (S.whil (fuelI 1) (T.and (T.tst (E.op2 gtI (E.var 1) (E.c (.int 0)))) (T.tst (E.op2 eqS (E.fld 0 0 (E.ix (Z.seq (E.var 0)) (E.op2 subI (E.var 1) (E.c (.int 1))))) (E.c (.int 0)))))
  (S.set 1 (E.op2 subI (E.var 1) (E.c (.int 1)))))
  (S.ret (E.asTup (E.cutL (Z.lst (E.var 0)) E.nopart (E.part (E.var 1)))))))
theorem bd_trimmed {Γ : Gam} (T : Top Γ) (B : Base Γ) : Body Γ (40) ["row", "size"] "_trimmed" (defScope st_trimmed) (He.ga Γ.K "_trimmed") (defBody st_trimmed) b_trimmed := fun _ _ _ _ _ _ =>
 (dss_cons (ds_set 1 sc_trimmed.nd (he := (de_lenY (dy_seq (de_var 0)) B.n_len)))
  (dss_cons (ds_while (fuelI 1) (dt_bool (dw_and (dt_cmp od_gt gtI_n (de_var 1) de_int (nomark _)) (dw_and1 (dt_cmp od_eqS eqS_n (de_fld B.k_Ratio (fld_Ratio_n B) (de_ixY (dy_seq (de_var 0)) (de_op2 od_sub subI_n (de_var 1) de_int))) de_int (nomark _)))))
  (dss_one (ds_set 1 sc_trimmed.nd (he := (de_op2 od_sub subI_n (de_var 1) de_int)))))
  (dss_one (ds_ret (de_tuple (dq_df (df_cut (dq_lst (de_var 0)) dp_none (dp_some (de_var 1)))) B.n_tuple)))))
def f_trimmed : List D → Res D := runD 2 1 b_trimmed
theorem ok_trimmed {Γ : Gam} (T : Top Γ) (B : Base Γ) : Cal Γ 41 (He.ga Γ.K "_trimmed") f_trimmed := cal_mk B.fd_trimmed sc_trimmed T (bd_trimmed T B) (fun _ _ _ _ _ _ us hl => match us, hl with | [_], _ => rfl)
/-! Poly.__init__ -/
theorem sc_Poly_init : FnScope ["self", "row", "c"] ["self", "row"] (defScope st_Poly_init) := ⟨rfl, rfl, rfl, by decide +kernel, rfl, by decide +kernel, by decide +kernel⟩
def b_Poly_init : Env → Out :=
 (S.fld 0 1 0 (E.app f_trimmed (E.cons (E.lst (E.comp [2] (Z.seq (E.var 1)) (S.tgt 2) T.yes (E.ite (T.tst (E.op1 (isiR isi_int) (E.var 2))) (E.app (objR 0 f_Ratio_init_1) (E.cons (E.var 2) E.nil)) (E.var 2)))) E.nil)))
theorem bd_Poly_init {Γ : Gam} (T : Top Γ) (B : Base Γ) : Body Γ (42) ["self", "row", "c"] "Poly.__init__" (defScope st_Poly_init) (He.ma Γ.K (He.ga Γ.K "Poly") "__init__") (defBody st_Poly_init) b_Poly_init := fun _ _ _ _ _ _ =>
 (dss_one (ds_fld 0 B.k_Poly (fld_Poly_row B) (de_call B.g_trimmed (ok_trimmed T B) (da_cons (de_lst (df_lc [("c", 2)] sc_Poly_init.nd (dc_di (di_seq (de_var 1))) (fun _ _ _ _ _ => (dgw_name 2 sc_Poly_init.nd)) (fun _ _ _ _ _ => dts_nil) (fun _ _ _ _ _ => (de_ite (dt_val (de_isiT B.isi_int (de_var 2) B.n_isinstance B.n_int (by decide +kernel))) (de_make B.k_Ratio (calI_Ratio_1 T B) (da_cons (de_var 2) da_nil)) (de_var 2))))) da_nil))))
def f_Poly_init_1 : List D → Res (List D) := runI 1 3 1 b_Poly_init
theorem calI_Poly_1 {Γ : Gam} (T : Top Γ) (B : Base Γ) : CalI Γ 43 1 f_Poly_init_1 := calI_mk (N := ["row", "c"]) B.fd_Poly_init B.mk_Poly sc_Poly_init T (bd_Poly_init T B) (fun _ _ _ _ _ _ us hl => match us, hl with | [_, _], _ => rfl)
/-! Poly.divided -/
theorem sc_Poly_divided : FnScope ["self", "other", "inverse", "rest", "size", "out", "_", "k", "factor", "at", "c"] ["self", "other"] (defScope st_Poly_divided) := ⟨rfl, rfl, rfl, by decide +kernel, rfl, by decide +kernel, by decide +kernel⟩
def b_Poly_divided : Env → Out :=
 (S.seq (S.set 2 (E.meth 0 f_Ratio_inverse (E.meth 1 f_Poly_last (E.var 1) E.nil) E.nil))
  (S.seq (S.setF 3 (Z.seq (E.fld 1 0 (E.var 0))))
  (S.seq (S.set 4 (E.op2 maxI (E.c (.int 0)) (E.op2 addI (E.op2 subI (E.len (Z.seq (E.fld 1 0 (E.var 0)))) (E.len (Z.seq (E.fld 1 0 (E.var 1))))) (E.c (.int 1)))))
  (S.seq (S.setF 5 (E.comp [6] (E.rng1 (E.var 4)) (S.tgt 6) T.yes (E.app (objR 0 f_Ratio_init_1) (E.cons (E.c (.int 0)) E.nil))))
  (S.seq (S.forE (E.rngDown (E.op2 subI (E.var 4) (E.c (.int 1))) (E.op1 negI (E.c (.int 1))) (E.op1 negI (E.c (.int 1)))) (S.tgt 7)
  (S.seq (S.set 8 (E.own2 0 f_Ratio_mul (E.ix (Z.own 3) (E.op2 subI (E.op2 addI (E.var 7) (E.len (Z.seq (E.fld 1 0 (E.var 1))))) (E.c (.int 1)))) (E.var 2)))
  (S.seq (S.setAt 5 (E.var 7) (E.var 8))
  (S.seq (S.ite (T.tst (E.op2 eqS (E.fld 0 0 (E.var 8)) (E.c (.int 0))))
  S.cnt
  S.skip)
  (S.forE (Z.enum (Z.seq (E.fld 1 0 (E.var 1)))) (S.gtup 2 (S.gcons (S.tgt 9) (S.gcons (S.tgt 10) S.gnil)))
  (S.ite (T.tst (E.op2 neS (E.fld 0 0 (E.var 10)) (E.c (.int 0))))
  (S.setAt 3 (E.op2 addI (E.var 7) (E.var 9)) (E.own2 0 f_Ratio_sub (E.ix (Z.own 3) (E.op2 addI (E.var 7) (E.var 9))) (E.own2 0 f_Ratio_mul (E.var 8) (E.var 10))))
  S.skip))))))
  (S.freeze 5 (S.freeze 3 (S.ret (E.tupl (E.cons (E.app (objR 1 f_Poly_init_1) (E.cons (E.var 5) E.nil)) (E.cons (E.app (objR 1 f_Poly_init_1) (E.cons (E.var 3) E.nil)) E.nil)))))))))))
theorem no_Poly_divided {Γ : Gam} (B : Base Γ) : ("divided" : Str) ∉ Γ.fld 1 := by rw [B.fl_Poly]; decide
theorem bd_Poly_divided {Γ : Gam} (T : Top Γ) (B : Base Γ) : Body Γ (44) ["self", "other", "inverse", "rest", "size", "out", "_", "k", "factor", "at", "c"] "Poly.divided" (defScope st_Poly_divided) (He.ma Γ.K (He.ga Γ.K "Poly") "divided") (defBody st_Poly_divided) b_Poly_divided := fun _ _ _ _ _ _ =>
 (dss_cons (ds_set 2 sc_Poly_divided.nd (he := (de_meth0 B.k_Ratio (calM_Ratio_inverse T B) (de_meth0 B.k_Poly (calM_Poly_last T B) (de_var 1)))))
  (dss_cons (ds_setF 3 sc_Poly_divided.nd (he := (df_listY (dy_seq (de_fld B.k_Poly (fld_Poly_row B) (de_var 0))) B.n_list)))
  (dss_cons (ds_set 4 sc_Poly_divided.nd (he := (de_max2 de_int (de_op2 od_add addI_n (de_op2 od_sub subI_n (de_lenY (dy_seq (de_fld B.k_Poly (fld_Poly_row B) (de_var 0))) B.n_len) (de_lenY (dy_seq (de_fld B.k_Poly (fld_Poly_row B) (de_var 1))) B.n_len)) de_int) B.n_max)))
  (dss_cons (ds_setFLc 5 [("_", 6)] sc_Poly_divided.nd (dc_di (di_rng1 (de_var 4) B.n_range)) (fun _ _ _ _ _ => (dgw_name 6 sc_Poly_divided.nd)) (fun _ _ _ _ _ => dts_nil) (fun _ _ _ _ _ => (de_make B.k_Ratio (calI_Ratio_1 T B) (da_cons de_int da_nil))))
  (dss_cons (ds_for (di_rngDown (de_op2 od_sub subI_n (de_var 4) de_int) (de_neg de_int) (de_neg de_int) B.n_range) (dg_name 7 sc_Poly_divided.nd)
  (dss_cons (ds_set 8 sc_Poly_divided.nd (he := (de_own2 B.k_Ratio (calM_Ratio_mul T B) rfl (de_ixY (dy_dq (dq_own 3)) (de_op2 od_sub subI_n (de_op2 od_add addI_n (de_var 7) (de_lenY (dy_seq (de_fld B.k_Poly (fld_Poly_row B) (de_var 1))) B.n_len)) de_int)) (de_var 2))))
  (dss_cons (ds_setAt 5 (de_var 8) (de_var 7))
  (dss_cons (ds_ite (dt_cmp od_eqS eqS_n (de_fld B.k_Ratio (fld_Ratio_n B) (de_var 8)) de_int (nomark _))
  (dss_one ds_continue)
  dss_nil)
  (dss_one (ds_for (di_enumY (dky_seq (de_fld B.k_Poly (fld_Poly_row B) (de_var 1))) B.n_enumerate) (dg_tup (dgs_cons (dg_name 9 sc_Poly_divided.nd) (dgs_cons (dg_name 10 sc_Poly_divided.nd) dgs_nil)))
  (dss_one (ds_ite (dt_cmp od_neS neS_n (de_fld B.k_Ratio (fld_Ratio_n B) (de_var 10)) de_int (nomark _))
  (dss_one (ds_setAt 3 (de_own2 B.k_Ratio (calM_Ratio_sub T B) rfl (de_ixY (dy_dq (dq_own 3)) (de_op2 od_add addI_n (de_var 7) (de_var 9))) (de_own2 B.k_Ratio (calM_Ratio_mul T B) rfl (de_var 8) (de_var 10))) (de_op2 od_add addI_n (de_var 7) (de_var 9))))
  dss_nil))))))))
  (dss_freeze 5 (dss_freeze 3 (dss_one (ds_ret (de_tupl (da_cons (de_make B.k_Poly (calI_Poly_1 T B) (da_cons (de_var 5) da_nil)) (da_cons (de_make B.k_Poly (calI_Poly_1 T B) (da_cons (de_var 3) da_nil)) da_nil))))))))))))
def f_Poly_divided : List D → Res D := runD 11 2 b_Poly_divided
theorem ok_Poly_divided {Γ : Gam} (T : Top Γ) (B : Base Γ) : Cal Γ 45 (He.ma Γ.K (He.ga Γ.K "Poly") "divided") f_Poly_divided := cal_mk B.fd_Poly_divided sc_Poly_divided T (bd_Poly_divided T B) (fun _ _ _ _ _ _ us hl => match us, hl with | [_, _], _ => rfl)
theorem calM_Poly_divided {Γ : Gam} (T : Top Γ) (B : Base Γ) : CalM Γ 45 1 "divided" f_Poly_divided := ⟨⟨_, B.mt_Poly_divided, ok_Poly_divided T B⟩, no_Poly_divided B⟩
/-! Poly.divides -/
theorem sc_Poly_divides : FnScope ["self", "other"] ["self", "other"] (defScope st_Poly_divides) := ⟨rfl, rfl, rfl, by decide +kernel, rfl, by decide +kernel, by decide +kernel⟩
def b_Poly_divides : Env → Out :=
 (S.seq (S.ite (T.tst (E.op2 eqS (E.len (Z.seq (E.fld 1 0 (E.var 0)))) (E.c (.int 0))))
  (S.ret (E.meth 1 f_Poly_is_zero (E.var 1) E.nil))
  S.skip)
  (S.ret (E.meth 1 f_Poly_is_zero (E.ix (Z.seq (E.meth 1 f_Poly_divided (E.var 1) (E.cons (E.var 0) E.nil))) (E.c (.int 1))) E.nil)))
theorem no_Poly_divides {Γ : Gam} (B : Base Γ) : ("divides" : Str) ∉ Γ.fld 1 := by rw [B.fl_Poly]; decide
theorem bd_Poly_divides {Γ : Gam} (T : Top Γ) (B : Base Γ) : Body Γ (45) ["self", "other"] "Poly.divides" (defScope st_Poly_divides) (He.ma Γ.K (He.ga Γ.K "Poly") "divides") (defBody st_Poly_divides) b_Poly_divides := fun _ _ _ _ _ _ =>
 (dss_cons (ds_ite (dt_cmp od_eqS eqS_n (de_lenY (dy_seq (de_fld B.k_Poly (fld_Poly_row B) (de_var 0))) B.n_len) de_int (nomark _))
  (dss_one (ds_ret (de_meth0 B.k_Poly (calM_Poly_is_zero T B) (de_var 1))))
  dss_nil)
  (dss_one (ds_ret (de_meth0 B.k_Poly (calM_Poly_is_zero T B) (de_ixY (dy_seq (de_meth B.k_Poly (calM_Poly_divided T B) (de_var 1) (da_cons (de_var 0) da_nil))) de_int)))))
def f_Poly_divides : List D → Res D := runD 2 2 b_Poly_divides
theorem ok_Poly_divides {Γ : Gam} (T : Top Γ) (B : Base Γ) : Cal Γ 46 (He.ma Γ.K (He.ga Γ.K "Poly") "divides") f_Poly_divides := cal_mk B.fd_Poly_divides sc_Poly_divides T (bd_Poly_divides T B) (fun _ _ _ _ _ _ us hl => match us, hl with | [_, _], _ => rfl)
theorem calM_Poly_divides {Γ : Gam} (T : Top Γ) (B : Base Γ) : CalM Γ 46 1 "divides" f_Poly_divides := ⟨⟨_, B.mt_Poly_divides, ok_Poly_divides T B⟩, no_Poly_divides B⟩
/-! Poly.__floordiv__ -/
theorem sc_Poly_floordiv : FnScope ["self", "other"] ["self", "other"] (defScope st_Poly_floordiv) := ⟨rfl, rfl, rfl, by decide +kernel, rfl, by decide +kernel, by decide +kernel⟩
def b_Poly_floordiv : Env → Out :=
 (S.ret (E.ix (Z.seq (E.meth 1 f_Poly_divided (E.var 0) (E.cons (E.var 1) E.nil))) (E.c (.int 0))))
theorem no_Poly_floordiv {Γ : Gam} (B : Base Γ) : ("__floordiv__" : Str) ∉ Γ.fld 1 := by rw [B.fl_Poly]; decide
theorem bd_Poly_floordiv {Γ : Gam} (T : Top Γ) (B : Base Γ) : Body Γ (45) ["self", "other"] "Poly.__floordiv__" (defScope st_Poly_floordiv) (He.ma Γ.K (He.ga Γ.K "Poly") "__floordiv__") (defBody st_Poly_floordiv) b_Poly_floordiv := fun _ _ _ _ _ _ =>
 (dss_one (ds_ret (de_ixY (dy_seq (de_meth B.k_Poly (calM_Poly_divided T B) (de_var 0) (da_cons (de_var 1) da_nil))) de_int)))
def f_Poly_floordiv : List D → Res D := runD 2 2 b_Poly_floordiv
theorem ok_Poly_floordiv {Γ : Gam} (T : Top Γ) (B : Base Γ) : Cal Γ 46 (He.ma Γ.K (He.ga Γ.K "Poly") "__floordiv__") f_Poly_floordiv := cal_mk B.fd_Poly_floordiv sc_Poly_floordiv T (bd_Poly_floordiv T B) (fun _ _ _ _ _ _ us hl => match us, hl with | [_, _], _ => rfl)
theorem calM_Poly_floordiv {Γ : Gam} (T : Top Γ) (B : Base Γ) : CalM Γ 46 1 "__floordiv__" f_Poly_floordiv := ⟨⟨_, B.mt_Poly_floordiv, ok_Poly_floordiv T B⟩, no_Poly_floordiv B⟩
/-! Ratio.__add__ -/
theorem sc_Ratio_add : FnScope ["self", "other"] ["self", "other"] (defScope st_Ratio_add) := ⟨rfl, rfl, rfl, by decide +kernel, rfl, by decide +kernel, by decide +kernel⟩
def b_Ratio_add : Env → Out :=
 (S.ret (E.app (objR 0 f_Ratio_init_2) (E.cons (E.op2 addI (E.op2 mulI (E.fld 0 0 (E.var 0)) (E.fld 0 1 (E.var 1))) (E.op2 mulI (E.fld 0 0 (E.var 1)) (E.fld 0 1 (E.var 0)))) (E.cons (E.op2 mulI (E.fld 0 1 (E.var 0)) (E.fld 0 1 (E.var 1))) E.nil))))
theorem no_Ratio_add {Γ : Gam} (B : Base Γ) : ("__add__" : Str) ∉ Γ.fld 0 := by rw [B.fl_Ratio]; decide
theorem bd_Ratio_add {Γ : Gam} (T : Top Γ) (B : Base Γ) : Body Γ (42) ["self", "other"] "Ratio.__add__" (defScope st_Ratio_add) (He.ma Γ.K (He.ga Γ.K "Ratio") "__add__") (defBody st_Ratio_add) b_Ratio_add := fun _ _ _ _ _ _ =>
 (dss_one (ds_ret (de_make B.k_Ratio (calI_Ratio_2 T B) (da_cons (de_op2 od_add addI_n (de_op2 od_mul mulI_n (de_fld B.k_Ratio (fld_Ratio_n B) (de_var 0)) (de_fld B.k_Ratio (fld_Ratio_d B) (de_var 1))) (de_op2 od_mul mulI_n (de_fld B.k_Ratio (fld_Ratio_n B) (de_var 1)) (de_fld B.k_Ratio (fld_Ratio_d B) (de_var 0)))) (da_cons (de_op2 od_mul mulI_n (de_fld B.k_Ratio (fld_Ratio_d B) (de_var 0)) (de_fld B.k_Ratio (fld_Ratio_d B) (de_var 1))) da_nil)))))
def f_Ratio_add : List D → Res D := runD 2 2 b_Ratio_add
theorem ok_Ratio_add {Γ : Gam} (T : Top Γ) (B : Base Γ) : Cal Γ 43 (He.ma Γ.K (He.ga Γ.K "Ratio") "__add__") f_Ratio_add := cal_mk B.fd_Ratio_add sc_Ratio_add T (bd_Ratio_add T B) (fun _ _ _ _ _ _ us hl => match us, hl with | [_, _], _ => rfl)
theorem calM_Ratio_add {Γ : Gam} (T : Top Γ) (B : Base Γ) : CalM Γ 43 0 "__add__" f_Ratio_add := ⟨⟨_, B.mt_Ratio_add, ok_Ratio_add T B⟩, no_Ratio_add B⟩
/-! Poly.__add__ -/
theorem sc_Poly_add : FnScope ["self", "other", "long", "short", "out", "a", "b"] ["self", "other"] (defScope st_Poly_add) := ⟨rfl, rfl, rfl, by decide +kernel, rfl, by decide +kernel, by decide +kernel⟩
def b_Poly_add : Env → Out :=
 (S.seq (S.par 2 3 (E.cons (E.fld 1 0 (E.var 0)) (E.cons (E.fld 1 0 (E.var 1)) E.nil)))
  (S.seq (S.ite (T.tst (E.op2 ltI (E.len (Z.seq (E.var 2))) (E.len (Z.seq (E.var 3)))))
  (S.par 2 3 (E.cons (E.var 3) (E.cons (E.var 2) E.nil)))
  S.skip)
  (S.seq (S.set 4 (E.lst (E.comp [5, 6] (Z.zipS (E.var 2) (E.var 3)) (S.gtup 2 (S.gcons (S.tgt 5) (S.gcons (S.tgt 6) S.gnil))) T.yes (E.own2 0 f_Ratio_add (E.var 5) (E.var 6)))))
  (S.ret (E.app (objR 1 f_Poly_init_1) (E.cons (E.lst (E.cat (Z.lst (E.var 4)) (Z.seq (E.cutS (E.var 2) (E.part (E.len (Z.seq (E.var 3)))) E.nopart)))) E.nil))))))
theorem no_Poly_add {Γ : Gam} (B : Base Γ) : ("__add__" : Str) ∉ Γ.fld 1 := by rw [B.fl_Poly]; decide
theorem bd_Poly_add {Γ : Gam} (T : Top Γ) (B : Base Γ) : Body Γ (44) ["self", "other", "long", "short", "out", "a", "b"] "Poly.__add__" (defScope st_Poly_add) (He.ma Γ.K (He.ga Γ.K "Poly") "__add__") (defBody st_Poly_add) b_Poly_add := fun _ _ _ _ _ _ =>
 (dss_cons (ds_par 2 3 sc_Poly_add.nd (da_cons (de_fld B.k_Poly (fld_Poly_row B) (de_var 0)) (da_cons (de_fld B.k_Poly (fld_Poly_row B) (de_var 1)) da_nil)))
  (dss_cons (ds_ite (dt_cmp od_lt ltI_n (de_lenY (dy_seq (de_var 2)) B.n_len) (de_lenY (dy_seq (de_var 3)) B.n_len) (nomark _))
  (dss_one (ds_par 2 3 sc_Poly_add.nd (da_cons (de_var 3) (da_cons (de_var 2) da_nil))))
  dss_nil)
  (dss_cons (ds_setLLc 4 [("a", 5), ("b", 6)] sc_Poly_add.nd (dc_di (di_zipS (de_var 2) (de_var 3) B.n_zip)) (fun _ _ _ _ _ => (dgw_tup (dgsw_cons (dgw_name 5 sc_Poly_add.nd) (dgsw_cons (dgw_name 6 sc_Poly_add.nd) dgsw_nil)))) (fun _ _ _ _ _ => dts_nil) (fun _ _ _ _ _ => (de_own2 B.k_Ratio (calM_Ratio_add T B) rfl (de_var 5) (de_var 6))))
  (dss_one (ds_ret (de_make B.k_Poly (calI_Poly_1 T B) (da_cons (de_lst (df_catY (dq_lst (de_var 4)) (dq_df (df_listY (dy_seq (de_cutS (de_var 2) (dp_some (de_lenY (dy_seq (de_var 3)) B.n_len)) dp_none)) B.n_list)))) da_nil)))))))
def f_Poly_add : List D → Res D := runD 7 2 b_Poly_add
theorem ok_Poly_add {Γ : Gam} (T : Top Γ) (B : Base Γ) : Cal Γ 45 (He.ma Γ.K (He.ga Γ.K "Poly") "__add__") f_Poly_add := cal_mk B.fd_Poly_add sc_Poly_add T (bd_Poly_add T B) (fun _ _ _ _ _ _ us hl => match us, hl with | [_, _], _ => rfl)
theorem calM_Poly_add {Γ : Gam} (T : Top Γ) (B : Base Γ) : CalM Γ 45 1 "__add__" f_Poly_add := ⟨⟨_, B.mt_Poly_add, ok_Poly_add T B⟩, no_Poly_add B⟩
/-! Ratio.__neg__ -/
theorem sc_Ratio_neg : FnScope ["self"] ["self"] (defScope st_Ratio_neg) := ⟨rfl, rfl, rfl, by decide +kernel, rfl, by decide +kernel, by decide +kernel⟩
def b_Ratio_neg : Env → Out :=
 (S.ret (E.app (objR 0 f_Ratio_init_2) (E.cons (E.op1 negI (E.fld 0 0 (E.var 0))) (E.cons (E.fld 0 1 (E.var 0)) E.nil))))
theorem no_Ratio_neg {Γ : Gam} (B : Base Γ) : ("__neg__" : Str) ∉ Γ.fld 0 := by rw [B.fl_Ratio]; decide
theorem bd_Ratio_neg {Γ : Gam} (T : Top Γ) (B : Base Γ) : Body Γ (42) ["self"] "Ratio.__neg__" (defScope st_Ratio_neg) (He.ma Γ.K (He.ga Γ.K "Ratio") "__neg__") (defBody st_Ratio_neg) b_Ratio_neg := fun _ _ _ _ _ _ =>
 (dss_one (ds_ret (de_make B.k_Ratio (calI_Ratio_2 T B) (da_cons (de_neg (de_fld B.k_Ratio (fld_Ratio_n B) (de_var 0))) (da_cons (de_fld B.k_Ratio (fld_Ratio_d B) (de_var 0)) da_nil)))))
def f_Ratio_neg : List D → Res D := runD 1 1 b_Ratio_neg
theorem ok_Ratio_neg {Γ : Gam} (T : Top Γ) (B : Base Γ) : Cal Γ 43 (He.ma Γ.K (He.ga Γ.K "Ratio") "__neg__") f_Ratio_neg := cal_mk B.fd_Ratio_neg sc_Ratio_neg T (bd_Ratio_neg T B) (fun _ _ _ _ _ _ us hl => match us, hl with | [_], _ => rfl)
theorem calM_Ratio_neg {Γ : Gam} (T : Top Γ) (B : Base Γ) : CalM Γ 43 0 "__neg__" f_Ratio_neg := ⟨⟨_, B.mt_Ratio_neg, ok_Ratio_neg T B⟩, no_Ratio_neg B⟩
/-! Poly.__neg__ -/
theorem sc_Poly_neg : FnScope ["self", "c"] ["self"] (defScope st_Poly_neg) := ⟨rfl, rfl, rfl, by decide +kernel, rfl, by decide +kernel, by decide +kernel⟩
def b_Poly_neg : Env → Out :=
 (S.ret (E.app (objR 1 f_Poly_init_1) (E.cons (E.lst (E.comp [1] (Z.seq (E.fld 1 0 (E.var 0))) (S.tgt 1) T.yes (E.meth 0 f_Ratio_neg (E.var 1) E.nil))) E.nil)))
theorem no_Poly_neg {Γ : Gam} (B : Base Γ) : ("__neg__" : Str) ∉ Γ.fld 1 := by rw [B.fl_Poly]; decide
theorem bd_Poly_neg {Γ : Gam} (T : Top Γ) (B : Base Γ) : Body Γ (44) ["self", "c"] "Poly.__neg__" (defScope st_Poly_neg) (He.ma Γ.K (He.ga Γ.K "Poly") "__neg__") (defBody st_Poly_neg) b_Poly_neg := fun _ _ _ _ _ _ =>
 (dss_one (ds_ret (de_make B.k_Poly (calI_Poly_1 T B) (da_cons (de_lst (df_lc [("c", 1)] sc_Poly_neg.nd (dc_di (di_seq (de_fld B.k_Poly (fld_Poly_row B) (de_var 0)))) (fun _ _ _ _ _ => (dgw_name 1 sc_Poly_neg.nd)) (fun _ _ _ _ _ => dts_nil) (fun _ _ _ _ _ => (de_ownNeg B.k_Ratio (calM_Ratio_neg T B) (de_var 1))))) da_nil))))
def f_Poly_neg : List D → Res D := runD 2 1 b_Poly_neg
theorem ok_Poly_neg {Γ : Gam} (T : Top Γ) (B : Base Γ) : Cal Γ 45 (He.ma Γ.K (He.ga Γ.K "Poly") "__neg__") f_Poly_neg := cal_mk B.fd_Poly_neg sc_Poly_neg T (bd_Poly_neg T B) (fun _ _ _ _ _ _ us hl => match us, hl with | [_], _ => rfl)
theorem calM_Poly_neg {Γ : Gam} (T : Top Γ) (B : Base Γ) : CalM Γ 45 1 "__neg__" f_Poly_neg := ⟨⟨_, B.mt_Poly_neg, ok_Poly_neg T B⟩, no_Poly_neg B⟩
/-! Poly.__sub__ -/
theorem sc_Poly_sub : FnScope ["self", "other"] ["self", "other"] (defScope st_Poly_sub) := ⟨rfl, rfl, rfl, by decide +kernel, rfl, by decide +kernel, by decide +kernel⟩
def b_Poly_sub : Env → Out :=
 (S.ret (E.own2 1 f_Poly_add (E.var 0) (E.meth 1 f_Poly_neg (E.var 1) E.nil)))
theorem no_Poly_sub {Γ : Gam} (B : Base Γ) : ("__sub__" : Str) ∉ Γ.fld 1 := by rw [B.fl_Poly]; decide
theorem bd_Poly_sub {Γ : Gam} (T : Top Γ) (B : Base Γ) : Body Γ (45) ["self", "other"] "Poly.__sub__" (defScope st_Poly_sub) (He.ma Γ.K (He.ga Γ.K "Poly") "__sub__") (defBody st_Poly_sub) b_Poly_sub := fun _ _ _ _ _ _ =>
 (dss_one (ds_ret (de_own2 B.k_Poly (calM_Poly_add T B) rfl (de_var 0) (de_ownNeg B.k_Poly (calM_Poly_neg T B) (de_var 1)))))
def f_Poly_sub : List D → Res D := runD 2 2 b_Poly_sub
theorem ok_Poly_sub {Γ : Gam} (T : Top Γ) (B : Base Γ) : Cal Γ 46 (He.ma Γ.K (He.ga Γ.K "Poly") "__sub__") f_Poly_sub := cal_mk B.fd_Poly_sub sc_Poly_sub T (bd_Poly_sub T B) (fun _ _ _ _ _ _ us hl => match us, hl with | [_, _], _ => rfl)
theorem calM_Poly_sub {Γ : Gam} (T : Top Γ) (B : Base Γ) : CalM Γ 46 1 "__sub__" f_Poly_sub := ⟨⟨_, B.mt_Poly_sub, ok_Poly_sub T B⟩, no_Poly_sub B⟩
/-! Poly.__mul__ -/
theorem sc_Poly_mul : FnScope ["self", "other", "out", "_", "at", "a", "k", "b"] ["self", "other"] (defScope st_Poly_mul) := ⟨rfl, rfl, rfl, by decide +kernel, rfl, by decide +kernel, by decide +kernel⟩
def b_Poly_mul : Env → Out :=
 (S.seq (S.setF 2 (E.comp [3] (E.rng1 (E.op2 addI (E.len (Z.seq (E.fld 1 0 (E.var 0)))) (E.len (Z.seq (E.fld 1 0 (E.var 1)))))) (S.tgt 3) T.yes (E.app (objR 0 f_Ratio_init_1) (E.cons (E.c (.int 0)) E.nil))))
  (S.seq (S.forE (Z.enum (Z.seq (E.fld 1 0 (E.var 0)))) (S.gtup 2 (S.gcons (S.tgt 4) (S.gcons (S.tgt 5) S.gnil)))
  (S.seq (S.ite (T.tst (E.op2 eqS (E.fld 0 0 (E.var 5)) (E.c (.int 0))))
  S.cnt
  S.skip)
  (S.forE (Z.enum (Z.seq (E.fld 1 0 (E.var 1)))) (S.gtup 2 (S.gcons (S.tgt 6) (S.gcons (S.tgt 7) S.gnil)))
  (S.ite (T.tst (E.op2 neS (E.fld 0 0 (E.var 7)) (E.c (.int 0))))
  (S.setAt 2 (E.op2 addI (E.var 4) (E.var 6)) (E.own2 0 f_Ratio_add (E.ix (Z.own 2) (E.op2 addI (E.var 4) (E.var 6))) (E.own2 0 f_Ratio_mul (E.var 5) (E.var 7))))
  S.skip))))
  (S.freeze 2 (S.ret (E.app (objR 1 f_Poly_init_1) (E.cons (E.var 2) E.nil))))))
theorem no_Poly_mul {Γ : Gam} (B : Base Γ) : ("__mul__" : Str) ∉ Γ.fld 1 := by rw [B.fl_Poly]; decide
theorem bd_Poly_mul {Γ : Gam} (T : Top Γ) (B : Base Γ) : Body Γ (44) ["self", "other", "out", "_", "at", "a", "k", "b"] "Poly.__mul__" (defScope st_Poly_mul) (He.ma Γ.K (He.ga Γ.K "Poly") "__mul__") (defBody st_Poly_mul) b_Poly_mul := fun _ _ _ _ _ _ =>
 (dss_cons (ds_setFLc 2 [("_", 3)] sc_Poly_mul.nd (dc_di (di_rng1 (de_op2 od_add addI_n (de_lenY (dy_seq (de_fld B.k_Poly (fld_Poly_row B) (de_var 0))) B.n_len) (de_lenY (dy_seq (de_fld B.k_Poly (fld_Poly_row B) (de_var 1))) B.n_len)) B.n_range)) (fun _ _ _ _ _ => (dgw_name 3 sc_Poly_mul.nd)) (fun _ _ _ _ _ => dts_nil) (fun _ _ _ _ _ => (de_make B.k_Ratio (calI_Ratio_1 T B) (da_cons de_int da_nil))))
  (dss_cons (ds_for (di_enumY (dky_seq (de_fld B.k_Poly (fld_Poly_row B) (de_var 0))) B.n_enumerate) (dg_tup (dgs_cons (dg_name 4 sc_Poly_mul.nd) (dgs_cons (dg_name 5 sc_Poly_mul.nd) dgs_nil)))
  (dss_cons (ds_ite (dt_cmp od_eqS eqS_n (de_fld B.k_Ratio (fld_Ratio_n B) (de_var 5)) de_int (nomark _))
  (dss_one ds_continue)
  dss_nil)
  (dss_one (ds_for (di_enumY (dky_seq (de_fld B.k_Poly (fld_Poly_row B) (de_var 1))) B.n_enumerate) (dg_tup (dgs_cons (dg_name 6 sc_Poly_mul.nd) (dgs_cons (dg_name 7 sc_Poly_mul.nd) dgs_nil)))
  (dss_one (ds_ite (dt_cmp od_neS neS_n (de_fld B.k_Ratio (fld_Ratio_n B) (de_var 7)) de_int (nomark _))
  (dss_one (ds_setAt 2 (de_own2 B.k_Ratio (calM_Ratio_add T B) rfl (de_ixY (dy_dq (dq_own 2)) (de_op2 od_add addI_n (de_var 4) (de_var 6))) (de_own2 B.k_Ratio (calM_Ratio_mul T B) rfl (de_var 5) (de_var 7))) (de_op2 od_add addI_n (de_var 4) (de_var 6))))
  dss_nil))))))
  (dss_freeze 2 (dss_one (ds_ret (de_make B.k_Poly (calI_Poly_1 T B) (da_cons (de_var 2) da_nil)))))))
def f_Poly_mul : List D → Res D := runD 8 2 b_Poly_mul
theorem ok_Poly_mul {Γ : Gam} (T : Top Γ) (B : Base Γ) : Cal Γ 45 (He.ma Γ.K (He.ga Γ.K "Poly") "__mul__") f_Poly_mul := cal_mk B.fd_Poly_mul sc_Poly_mul T (bd_Poly_mul T B) (fun _ _ _ _ _ _ us hl => match us, hl with | [_, _], _ => rfl)
theorem calM_Poly_mul {Γ : Gam} (T : Top Γ) (B : Base Γ) : CalM Γ 45 1 "__mul__" f_Poly_mul := ⟨⟨_, B.mt_Poly_mul, ok_Poly_mul T B⟩, no_Poly_mul B⟩
/-! Poly.scaled -/
theorem sc_Poly_scaled : FnScope ["self", "r", "c"] ["self", "r"] (defScope st_Poly_scaled) := ⟨rfl, rfl, rfl, by decide +kernel, rfl, by decide +kernel, by decide +kernel⟩
def b_Poly_scaled : Env → Out :=
 (S.ret (E.app (objR 1 f_Poly_init_1) (E.cons (E.lst (E.comp [2] (Z.seq (E.fld 1 0 (E.var 0))) (S.tgt 2) T.yes (E.own2 0 f_Ratio_mul (E.var 1) (E.var 2)))) E.nil)))
theorem no_Poly_scaled {Γ : Gam} (B : Base Γ) : ("scaled" : Str) ∉ Γ.fld 1 := by rw [B.fl_Poly]; decide
theorem bd_Poly_scaled {Γ : Gam} (T : Top Γ) (B : Base Γ) : Body Γ (44) ["self", "r", "c"] "Poly.scaled" (defScope st_Poly_scaled) (He.ma Γ.K (He.ga Γ.K "Poly") "scaled") (defBody st_Poly_scaled) b_Poly_scaled := fun _ _ _ _ _ _ =>
 (dss_one (ds_ret (de_make B.k_Poly (calI_Poly_1 T B) (da_cons (de_lst (df_lc [("c", 2)] sc_Poly_scaled.nd (dc_di (di_seq (de_fld B.k_Poly (fld_Poly_row B) (de_var 0)))) (fun _ _ _ _ _ => (dgw_name 2 sc_Poly_scaled.nd)) (fun _ _ _ _ _ => dts_nil) (fun _ _ _ _ _ => (de_own2 B.k_Ratio (calM_Ratio_mul T B) rfl (de_var 1) (de_var 2))))) da_nil))))
def f_Poly_scaled : List D → Res D := runD 3 2 b_Poly_scaled
theorem ok_Poly_scaled {Γ : Gam} (T : Top Γ) (B : Base Γ) : Cal Γ 45 (He.ma Γ.K (He.ga Γ.K "Poly") "scaled") f_Poly_scaled := cal_mk B.fd_Poly_scaled sc_Poly_scaled T (bd_Poly_scaled T B) (fun _ _ _ _ _ _ us hl => match us, hl with | [_, _], _ => rfl)
theorem calM_Poly_scaled {Γ : Gam} (T : Top Γ) (B : Base Γ) : CalM Γ 45 1 "scaled" f_Poly_scaled := ⟨⟨_, B.mt_Poly_scaled, ok_Poly_scaled T B⟩, no_Poly_scaled B⟩
/-! _first_cofactor -/
theorem sc_first_cofactor : FnScope ["p", "q", "first", "second", "u", "v", "quotient", "rest", "inverse"] ["p", "q"] (defScope st_first_cofactor) := ⟨rfl, rfl, rfl, by decide +kernel, rfl, by decide +kernel, by decide +kernel⟩
def b_first_cofactor : Env → Out :=
 (S.seq (S.par 2 3 (E.cons (E.var 0) (E.cons (E.var 1) E.nil)))
  (S.seq (S.par 4 5 (E.cons (E.app (objR 1 f_Poly_init_1) (E.cons (E.tupl (E.cons (E.c (.int 1)) E.nil)) E.nil)) (E.cons (E.app (objR 1 f_Poly_init_1) (E.cons (E.tupl E.nil) E.nil)) E.nil)))
  (S.seq (S.whil (fuelO 3) (T.not (T.tst (E.meth 1 f_Poly_is_zero (E.var 3) E.nil)))
  (S.seq (S.asg (S.gtup 2 (S.gcons (S.tgt 6) (S.gcons (S.tgt 7) S.gnil))) (E.meth 1 f_Poly_divided (E.var 2) (E.cons (E.var 3) E.nil)))
  (S.seq (S.par 2 3 (E.cons (E.var 3) (E.cons (E.var 7) E.nil)))
  (S.par 4 5 (E.cons (E.var 5) (E.cons (E.own2 1 f_Poly_sub (E.var 4) (E.own2 1 f_Poly_mul (E.var 6) (E.var 5))) E.nil))))))
  (S.seq (S.set 8 (E.meth 0 f_Ratio_inverse (E.meth 1 f_Poly_last (E.var 2) E.nil) E.nil))
  (S.ret (E.tupl (E.cons (E.meth 1 f_Poly_scaled (E.var 2) (E.cons (E.var 8) E.nil)) (E.cons (E.meth 1 f_Poly_scaled (E.var 4) (E.cons (E.var 8) E.nil)) E.nil))))))))
theorem bd_first_cofactor {Γ : Gam} (T : Top Γ) (B : Base Γ) : Body Γ (46) ["p", "q", "first", "second", "u", "v", "quotient", "rest", "inverse"] "_first_cofactor" (defScope st_first_cofactor) (He.ga Γ.K "_first_cofactor") (defBody st_first_cofactor) b_first_cofactor := fun _ _ _ _ _ _ =>
 (dss_cons (ds_par 2 3 sc_first_cofactor.nd (da_cons (de_var 0) (da_cons (de_var 1) da_nil)))
  (dss_cons (ds_par 4 5 sc_first_cofactor.nd (da_cons (de_make B.k_Poly (calI_Poly_1 T B) (da_cons (de_tupl (da_cons de_int da_nil)) da_nil)) (da_cons (de_make B.k_Poly (calI_Poly_1 T B) (da_cons (de_tupl da_nil) da_nil)) da_nil)))
  (dss_cons (ds_while (fuelO 3) (dt_not (dt_val (de_meth0 B.k_Poly (calM_Poly_is_zero T B) (de_var 3))))
  (dss_cons (ds_asg (dg_tup (dgs_cons (dg_name 6 sc_first_cofactor.nd) (dgs_cons (dg_name 7 sc_first_cofactor.nd) dgs_nil))) (de_meth B.k_Poly (calM_Poly_divided T B) (de_var 2) (da_cons (de_var 3) da_nil)))
  (dss_cons (ds_par 2 3 sc_first_cofactor.nd (da_cons (de_var 3) (da_cons (de_var 7) da_nil)))
  (dss_one (ds_par 4 5 sc_first_cofactor.nd (da_cons (de_var 5) (da_cons (de_own2 B.k_Poly (calM_Poly_sub T B) rfl (de_var 4) (de_own2 B.k_Poly (calM_Poly_mul T B) rfl (de_var 6) (de_var 5))) da_nil)))))))
  (dss_cons (ds_set 8 sc_first_cofactor.nd (he := (de_meth0 B.k_Ratio (calM_Ratio_inverse T B) (de_meth0 B.k_Poly (calM_Poly_last T B) (de_var 2)))))
  (dss_one (ds_ret (de_tupl (da_cons (de_meth B.k_Poly (calM_Poly_scaled T B) (de_var 2) (da_cons (de_var 8) da_nil)) (da_cons (de_meth B.k_Poly (calM_Poly_scaled T B) (de_var 4) (da_cons (de_var 8) da_nil)) da_nil)))))))))
def f_first_cofactor : List D → Res D := runD 9 2 b_first_cofactor
theorem ok_first_cofactor {Γ : Gam} (T : Top Γ) (B : Base Γ) : Cal Γ 47 (He.ga Γ.K "_first_cofactor") f_first_cofactor := cal_mk B.fd_first_cofactor sc_first_cofactor T (bd_first_cofactor T B) (fun _ _ _ _ _ _ us hl => match us, hl with | [_, _], _ => rfl)
/-! Poly.__mod__ -/
theorem sc_Poly_mod : FnScope ["self", "other"] ["self", "other"] (defScope st_Poly_mod) := ⟨rfl, rfl, rfl, by decide +kernel, rfl, by decide +kernel, by decide +kernel⟩
def b_Poly_mod : Env → Out :=
 (S.ret (E.ix (Z.seq (E.meth 1 f_Poly_divided (E.var 0) (E.cons (E.var 1) E.nil))) (E.c (.int 1))))
theorem no_Poly_mod {Γ : Gam} (B : Base Γ) : ("__mod__" : Str) ∉ Γ.fld 1 := by rw [B.fl_Poly]; decide
theorem bd_Poly_mod {Γ : Gam} (T : Top Γ) (B : Base Γ) : Body Γ (45) ["self", "other"] "Poly.__mod__" (defScope st_Poly_mod) (He.ma Γ.K (He.ga Γ.K "Poly") "__mod__") (defBody st_Poly_mod) b_Poly_mod := fun _ _ _ _ _ _ =>
 (dss_one (ds_ret (de_ixY (dy_seq (de_meth B.k_Poly (calM_Poly_divided T B) (de_var 0) (da_cons (de_var 1) da_nil))) de_int)))
def f_Poly_mod : List D → Res D := runD 2 2 b_Poly_mod
theorem ok_Poly_mod {Γ : Gam} (T : Top Γ) (B : Base Γ) : Cal Γ 46 (He.ma Γ.K (He.ga Γ.K "Poly") "__mod__") f_Poly_mod := cal_mk B.fd_Poly_mod sc_Poly_mod T (bd_Poly_mod T B) (fun _ _ _ _ _ _ us hl => match us, hl with | [_, _], _ => rfl)
theorem calM_Poly_mod {Γ : Gam} (T : Top Γ) (B : Base Γ) : CalM Γ 46 1 "__mod__" f_Poly_mod := ⟨⟨_, B.mt_Poly_mod, ok_Poly_mod T B⟩, no_Poly_mod B⟩
/-! combine_to -/
theorem sc_combine_to : FnScope ["a", "b", "c", "g", "u", "s"] ["a", "b", "c"] (defScope st_combine_to) := ⟨rfl, rfl, rfl, by decide +kernel, rfl, by decide +kernel, by decide +kernel⟩
def b_combine_to : Env → Out :=
 (S.seq (S.ite (T.tst (E.meth 1 f_Poly_is_zero (E.var 1) E.nil))
  (S.seq (S.ite (T.not (T.tst (E.meth 1 f_Poly_divides (E.var 0) (E.cons (E.var 2) E.nil))))
  (S.ret (E.c .non))
  S.skip)
  (S.ret (E.ite (T.tst (E.meth 1 f_Poly_is_zero (E.var 0) E.nil)) (E.tupl (E.cons (E.var 0) (E.cons (E.var 1) E.nil))) (E.tupl (E.cons (E.own2 1 f_Poly_floordiv (E.var 2) (E.var 0)) (E.cons (E.var 1) E.nil))))))
  S.skip)
  (S.seq (S.asg (S.gtup 2 (S.gcons (S.tgt 3) (S.gcons (S.tgt 4) S.gnil))) (E.app f_first_cofactor (E.cons (E.var 0) (E.cons (E.var 1) E.nil))))
  (S.seq (S.ite (T.not (T.tst (E.meth 1 f_Poly_divides (E.var 3) (E.cons (E.var 2) E.nil))))
  (S.ret (E.c .non))
  S.skip)
  (S.seq (S.set 5 (E.own2 1 f_Poly_mod (E.own2 1 f_Poly_mul (E.var 4) (E.own2 1 f_Poly_floordiv (E.var 2) (E.var 3))) (E.own2 1 f_Poly_floordiv (E.var 1) (E.var 3))))
  (S.ret (E.tupl (E.cons (E.var 5) (E.cons (E.own2 1 f_Poly_floordiv (E.own2 1 f_Poly_sub (E.var 2) (E.own2 1 f_Poly_mul (E.var 5) (E.var 0))) (E.var 1)) E.nil))))))))
theorem bd_combine_to {Γ : Gam} (T : Top Γ) (B : Base Γ) : Body Γ (47) ["a", "b", "c", "g", "u", "s"] "combine_to" (defScope st_combine_to) (He.ga Γ.K "combine_to") (defBody st_combine_to) b_combine_to := fun _ _ _ _ _ _ =>
 (dss_cons (ds_ite (dt_val (de_meth0 B.k_Poly (calM_Poly_is_zero T B) (de_var 1)))
  (dss_cons (ds_ite (dt_not (dt_val (de_meth B.k_Poly (calM_Poly_divides T B) (de_var 0) (da_cons (de_var 2) da_nil))))
  (dss_one (ds_ret de_non))
  dss_nil)
  (dss_one (ds_ret (de_ite (dt_val (de_meth0 B.k_Poly (calM_Poly_is_zero T B) (de_var 0))) (de_tupl (da_cons (de_var 0) (da_cons (de_var 1) da_nil))) (de_tupl (da_cons (de_own2 B.k_Poly (calM_Poly_floordiv T B) rfl (de_var 2) (de_var 0)) (da_cons (de_var 1) da_nil)))))))
  dss_nil)
  (dss_cons (ds_asg (dg_tup (dgs_cons (dg_name 3 sc_combine_to.nd) (dgs_cons (dg_name 4 sc_combine_to.nd) dgs_nil))) (de_call B.g_first_cofactor (ok_first_cofactor T B) (da_cons (de_var 0) (da_cons (de_var 1) da_nil))))
  (dss_cons (ds_ite (dt_not (dt_val (de_meth B.k_Poly (calM_Poly_divides T B) (de_var 3) (da_cons (de_var 2) da_nil))))
  (dss_one (ds_ret de_non))
  dss_nil)
  (dss_cons (ds_set 5 sc_combine_to.nd (he := (de_own2 B.k_Poly (calM_Poly_mod T B) rfl (de_own2 B.k_Poly (calM_Poly_mul T B) rfl (de_var 4) (de_own2 B.k_Poly (calM_Poly_floordiv T B) rfl (de_var 2) (de_var 3))) (de_own2 B.k_Poly (calM_Poly_floordiv T B) rfl (de_var 1) (de_var 3)))))
  (dss_one (ds_ret (de_tupl (da_cons (de_var 5) (da_cons (de_own2 B.k_Poly (calM_Poly_floordiv T B) rfl (de_own2 B.k_Poly (calM_Poly_sub T B) rfl (de_var 2) (de_own2 B.k_Poly (calM_Poly_mul T B) rfl (de_var 5) (de_var 0))) (de_var 1)) da_nil)))))))))
def f_combine_to : List D → Res D := runD 6 3 b_combine_to
theorem ok_combine_to {Γ : Gam} (T : Top Γ) (B : Base Γ) : Cal Γ 48 (He.ga Γ.K "combine_to") f_combine_to := cal_mk B.fd_combine_to sc_combine_to T (bd_combine_to T B) (fun _ _ _ _ _ _ us hl => match us, hl with | [_, _, _], _ => rfl)
/-! _law_make -/
theorem sc_law_make : FnScope ["_law_row_here", "_law_q"] ["_law_row_here"] (defScope st_law_make) := ⟨rfl, rfl, rfl, by decide +kernel, rfl, by decide +kernel, by decide +kernel⟩
def b_law_make : Env → Out :=
 (S.ret (E.app (objR 1 f_Poly_init_1) (E.cons (E.lst (E.comp [1] (Z.seq (E.var 0)) (S.tgt 1) T.yes (E.app (objR 0 f_Ratio_init_2) (E.cons (E.ix (Z.seq (E.var 1)) (E.c (.int 0))) (E.cons (E.ix (Z.seq (E.var 1)) (E.c (.int 1))) E.nil))))) E.nil)))
theorem bd_law_make {Γ : Gam} (T : Top Γ) (B : Base Γ) : Body Γ (44) ["_law_row_here", "_law_q"] "_law_make" (defScope st_law_make) (He.ga Γ.K "_law_make") (defBody st_law_make) b_law_make := fun _ _ _ _ _ _ =>
 (dss_one (ds_ret (de_make B.k_Poly (calI_Poly_1 T B) (da_cons (de_lst (df_lc [("_law_q", 1)] sc_law_make.nd (dc_di (di_seq (de_var 0))) (fun _ _ _ _ _ => (dgw_name 1 sc_law_make.nd)) (fun _ _ _ _ _ => dts_nil) (fun _ _ _ _ _ => (de_make B.k_Ratio (calI_Ratio_2 T B) (da_cons (de_ixY (dy_seq (de_var 1)) de_int) (da_cons (de_ixY (dy_seq (de_var 1)) de_int) da_nil)))))) da_nil))))
def f_law_make : List D → Res D := runD 2 1 b_law_make
theorem ok_law_make {Γ : Gam} (T : Top Γ) (B : Base Γ) : Cal Γ 45 (He.ga Γ.K "_law_make") f_law_make := cal_mk B.fd_law_make sc_law_make T (bd_law_make T B) (fun _ _ _ _ _ _ us hl => match us, hl with | [_], _ => rfl)
/-! _law_is_integer -/
theorem sc_law_is_integer : FnScope ["_law_value_here"] ["_law_value_here"] (defScope st_law_is_integer) := ⟨rfl, rfl, rfl, by decide +kernel, rfl, by decide +kernel, by decide +kernel⟩
def b_law_is_integer : Env → Out :=
 (S.ret (E.and (E.op1 (isiR isi_int) (E.var 0)) (E.not (E.op1 (isiR isi_bool) (E.var 0)))))
theorem bd_law_is_integer {Γ : Gam} (T : Top Γ) (B : Base Γ) : Body Γ (40) ["_law_value_here"] "_law_is_integer" (defScope st_law_is_integer) (He.ga Γ.K "_law_is_integer") (defBody st_law_is_integer) b_law_is_integer := fun _ _ _ _ _ _ =>
 (dss_one (ds_ret (de_and (de_isiT B.isi_int (de_var 0) B.n_isinstance B.n_int (by decide +kernel)) (de_one (de_not (de_isiT B.isi_bool (de_var 0) B.n_isinstance B.n_bool (by decide +kernel)))))))
def f_law_is_integer : List D → Res D := runD 1 1 b_law_is_integer
theorem ok_law_is_integer {Γ : Gam} (T : Top Γ) (B : Base Γ) : Cal Γ 41 (He.ga Γ.K "_law_is_integer") f_law_is_integer := cal_mk B.fd_law_is_integer sc_law_is_integer T (bd_law_is_integer T B) (fun _ _ _ _ _ _ us hl => match us, hl with | [_], _ => rfl)
/-! _law_pair -/
theorem sc_law_pair : FnScope ["_law_value_here"] ["_law_value_here"] (defScope st_law_pair) := ⟨rfl, rfl, rfl, by decide +kernel, rfl, by decide +kernel, by decide +kernel⟩
def b_law_pair : Env → Out :=
 (S.seq (S.ite (T.or (T.not (T.tst (E.op1 (isiR isi_Ratio) (E.var 0)))) (T.or (T.not (T.tst (E.app f_law_is_integer (E.cons (E.fld 0 0 (E.var 0)) E.nil)))) (T.not (T.tst (E.app f_law_is_integer (E.cons (E.fld 0 1 (E.var 0)) E.nil))))))
  (S.ret (E.c .non))
  S.skip)
  (S.seq (S.ite (T.or (T.tst (E.op2 ltI (E.fld 0 1 (E.var 0)) (E.c (.int 1)))) (T.tst (E.op2 neS (E.app f_law_gcd (E.cons (E.fld 0 0 (E.var 0)) (E.cons (E.fld 0 1 (E.var 0)) E.nil))) (E.c (.int 1)))))
  (S.ret (E.c .non))
  S.skip)
  (S.ret (E.tupl (E.cons (E.fld 0 0 (E.var 0)) (E.cons (E.fld 0 1 (E.var 0)) E.nil))))))
theorem bd_law_pair {Γ : Gam} (T : Top Γ) (B : Base Γ) : Body Γ (41) ["_law_value_here"] "_law_pair" (defScope st_law_pair) (He.ga Γ.K "_law_pair") (defBody st_law_pair) b_law_pair := fun _ _ _ _ _ _ =>
 (dss_cons (ds_ite (dt_bool (dw_or (dt_not (dt_val (de_isiC B.isi_Ratio B.k_Ratio (de_var 0) B.n_isinstance))) (dw_or (dt_not (dt_val (de_call B.g_law_is_integer (ok_law_is_integer T B) (da_cons (de_fld B.k_Ratio (fld_Ratio_n B) (de_var 0)) da_nil)))) (dw_or1 (dt_not (dt_val (de_call B.g_law_is_integer (ok_law_is_integer T B) (da_cons (de_fld B.k_Ratio (fld_Ratio_d B) (de_var 0)) da_nil))))))))
  (dss_one (ds_ret de_non))
  dss_nil)
  (dss_cons (ds_ite (dt_bool (dw_or (dt_cmp od_lt ltI_n (de_fld B.k_Ratio (fld_Ratio_d B) (de_var 0)) de_int (nomark _)) (dw_or1 (dt_cmp od_neS neS_n (de_call B.g_law_gcd (ok_law_gcd T B) (da_cons (de_fld B.k_Ratio (fld_Ratio_n B) (de_var 0)) (da_cons (de_fld B.k_Ratio (fld_Ratio_d B) (de_var 0)) da_nil))) de_int (nomark _)))))
  (dss_one (ds_ret de_non))
  dss_nil)
  (dss_one (ds_ret (de_tupl (da_cons (de_fld B.k_Ratio (fld_Ratio_n B) (de_var 0)) (da_cons (de_fld B.k_Ratio (fld_Ratio_d B) (de_var 0)) da_nil)))))))
def f_law_pair : List D → Res D := runD 1 1 b_law_pair
theorem ok_law_pair {Γ : Gam} (T : Top Γ) (B : Base Γ) : Cal Γ 42 (He.ga Γ.K "_law_pair") f_law_pair := cal_mk B.fd_law_pair sc_law_pair T (bd_law_pair T B) (fun _ _ _ _ _ _ us hl => match us, hl with | [_], _ => rfl)
/-! _law_row -/
theorem sc_law_row : FnScope ["_law_p", "_law_row_here", "_law_item"] ["_law_p"] (defScope st_law_row) := ⟨rfl, rfl, rfl, by decide +kernel, rfl, by decide +kernel, by decide +kernel⟩
def b_law_row : Env → Out :=
 (S.seq (S.ite (T.or (T.not (T.tst (E.op1 (isiR isi_Poly) (E.var 0)))) (T.not (T.tst (E.op1 (isiR isi_tuple) (E.fld 1 0 (E.var 0))))))
  (S.ret (E.c .non))
  S.skip)
  (S.seq (S.set 1 (E.lst (E.comp [2] (Z.seq (E.fld 1 0 (E.var 0))) (S.tgt 2) T.yes (E.app f_law_pair (E.cons (E.var 2) E.nil)))))
  (S.seq (S.ite (T.or (T.tst (E.inP false (E.c .non) (Z.lst (E.var 1)))) (T.and (T.tst (E.op2 gtI (E.len (Z.seq (E.var 1))) (E.c (.int 0)))) (T.tst (E.op2 eqS (E.ix (Z.seq (E.ix (Z.seq (E.var 1)) (E.op2 subI (E.len (Z.seq (E.var 1))) (E.c (.int 1))))) (E.c (.int 0))) (E.c (.int 0))))))
  (S.ret (E.c .non))
  S.skip)
  (S.ret (E.asTup (Z.seq (E.var 1)))))))
theorem bd_law_row {Γ : Gam} (T : Top Γ) (B : Base Γ) : Body Γ (42) ["_law_p", "_law_row_here", "_law_item"] "_law_row" (defScope st_law_row) (He.ga Γ.K "_law_row") (defBody st_law_row) b_law_row := fun _ _ _ _ _ _ =>
 (dss_cons (ds_ite (dt_bool (dw_or (dt_not (dt_val (de_isiC B.isi_Poly B.k_Poly (de_var 0) B.n_isinstance))) (dw_or1 (dt_not (dt_val (de_isiT B.isi_tuple (de_fld B.k_Poly (fld_Poly_row B) (de_var 0)) B.n_isinstance B.n_tuple (by decide +kernel)))))))
  (dss_one (ds_ret de_non))
  dss_nil)
  (dss_cons (ds_setLLc 1 [("_law_item", 2)] sc_law_row.nd (dc_di (di_seq (de_fld B.k_Poly (fld_Poly_row B) (de_var 0)))) (fun _ _ _ _ _ => (dgw_name 2 sc_law_row.nd)) (fun _ _ _ _ _ => dts_nil) (fun _ _ _ _ _ => (de_call B.g_law_pair (ok_law_pair T B) (da_cons (de_var 2) da_nil))))
  (dss_cons (ds_ite (dt_bool (dw_or (dt_inP de_non (dq_lst (de_var 1))) (dw_or1 (dt_bool (dw_and (dt_cmp od_gt gtI_n (de_lenY (dy_seq (de_var 1)) B.n_len) de_int (nomark _)) (dw_and1 (dt_cmp od_eqS eqS_n (de_ixY (dy_seq (de_ixY (dy_seq (de_var 1)) (de_op2 od_sub subI_n (de_lenY (dy_seq (de_var 1)) B.n_len) de_int))) de_int) de_int (nomark _))))))))
  (dss_one (ds_ret de_non))
  dss_nil)
  (dss_one (ds_ret (de_tupleY (de_var 1) B.n_tuple))))))
def f_law_row : List D → Res D := runD 3 1 b_law_row
theorem ok_law_row {Γ : Gam} (T : Top Γ) (B : Base Γ) : Cal Γ 43 (He.ga Γ.K "_law_row") f_law_row := cal_mk B.fd_law_row sc_law_row T (bd_law_row T B) (fun _ _ _ _ _ _ us hl => match us, hl with | [_], _ => rfl)
/-! Poly.monic -/
theorem sc_Poly_monic : FnScope ["self"] ["self"] (defScope st_Poly_monic) := ⟨rfl, rfl, rfl, by decide +kernel, rfl, by decide +kernel, by decide +kernel⟩
def b_Poly_monic : Env → Out :=
 (S.seq (S.ite (T.tst (E.op2 eqS (E.len (Z.seq (E.fld 1 0 (E.var 0)))) (E.c (.int 0))))
  (S.ret (E.var 0))
  S.skip)
  (S.ret (E.meth 1 f_Poly_scaled (E.var 0) (E.cons (E.meth 0 f_Ratio_inverse (E.meth 1 f_Poly_last (E.var 0) E.nil) E.nil) E.nil))))
theorem no_Poly_monic {Γ : Gam} (B : Base Γ) : ("monic" : Str) ∉ Γ.fld 1 := by rw [B.fl_Poly]; decide
theorem bd_Poly_monic {Γ : Gam} (T : Top Γ) (B : Base Γ) : Body Γ (45) ["self"] "Poly.monic" (defScope st_Poly_monic) (He.ma Γ.K (He.ga Γ.K "Poly") "monic") (defBody st_Poly_monic) b_Poly_monic := fun _ _ _ _ _ _ =>
 (dss_cons (ds_ite (dt_cmp od_eqS eqS_n (de_lenY (dy_seq (de_fld B.k_Poly (fld_Poly_row B) (de_var 0))) B.n_len) de_int (nomark _))
  (dss_one (ds_ret (de_var 0)))
  dss_nil)
  (dss_one (ds_ret (de_meth B.k_Poly (calM_Poly_scaled T B) (de_var 0) (da_cons (de_meth0 B.k_Ratio (calM_Ratio_inverse T B) (de_meth0 B.k_Poly (calM_Poly_last T B) (de_var 0))) da_nil)))))
def f_Poly_monic : List D → Res D := runD 1 1 b_Poly_monic
theorem ok_Poly_monic {Γ : Gam} (T : Top Γ) (B : Base Γ) : Cal Γ 46 (He.ma Γ.K (He.ga Γ.K "Poly") "monic") f_Poly_monic := cal_mk B.fd_Poly_monic sc_Poly_monic T (bd_Poly_monic T B) (fun _ _ _ _ _ _ us hl => match us, hl with | [_], _ => rfl)
theorem calM_Poly_monic {Γ : Gam} (T : Top Γ) (B : Base Γ) : CalM Γ 46 1 "monic" f_Poly_monic := ⟨⟨_, B.mt_Poly_monic, ok_Poly_monic T B⟩, no_Poly_monic B⟩
/-! Poly.degree -/
theorem sc_Poly_degree : FnScope ["self"] ["self"] (defScope st_Poly_degree) := ⟨rfl, rfl, rfl, by decide +kernel, rfl, by decide +kernel, by decide +kernel⟩
def b_Poly_degree : Env → Out :=
 (S.ret (E.op2 subI (E.len (Z.seq (E.fld 1 0 (E.var 0)))) (E.c (.int 1))))
theorem no_Poly_degree {Γ : Gam} (B : Base Γ) : ("degree" : Str) ∉ Γ.fld 1 := by rw [B.fl_Poly]; decide
theorem bd_Poly_degree {Γ : Gam} (T : Top Γ) (B : Base Γ) : Body Γ (40) ["self"] "Poly.degree" (defScope st_Poly_degree) (He.ma Γ.K (He.ga Γ.K "Poly") "degree") (defBody st_Poly_degree) b_Poly_degree := fun _ _ _ _ _ _ =>
 (dss_one (ds_ret (de_op2 od_sub subI_n (de_lenY (dy_seq (de_fld B.k_Poly (fld_Poly_row B) (de_var 0))) B.n_len) de_int)))
def f_Poly_degree : List D → Res D := runD 1 1 b_Poly_degree
theorem ok_Poly_degree {Γ : Gam} (T : Top Γ) (B : Base Γ) : Cal Γ 41 (He.ma Γ.K (He.ga Γ.K "Poly") "degree") f_Poly_degree := cal_mk B.fd_Poly_degree sc_Poly_degree T (bd_Poly_degree T B) (fun _ _ _ _ _ _ us hl => match us, hl with | [_], _ => rfl)
theorem calM_Poly_degree {Γ : Gam} (T : Top Γ) (B : Base Γ) : CalM Γ 41 1 "degree" f_Poly_degree := ⟨⟨_, B.mt_Poly_degree, ok_Poly_degree T B⟩, no_Poly_degree B⟩
/-! Poly.primitive -/
theorem sc_Poly_primitive : FnScope ["self", "scale", "common", "c", "numbers"] ["self"] (defScope st_Poly_primitive) := ⟨rfl, rfl, rfl, by decide +kernel, rfl, by decide +kernel, by decide +kernel⟩
def b_Poly_primitive : Env → Out :=
 (S.seq (S.asg (S.gtup 2 (S.gcons (S.tgt 1) (S.gcons (S.tgt 2) S.gnil))) (E.tupl (E.cons (E.c (.int 1)) (E.cons (E.c (.int 0)) E.nil))))
  (S.seq (S.forE (Z.seq (E.fld 1 0 (E.var 0))) (S.tgt 3)
  (S.set 1 (E.op2 lcmI (E.var 1) (E.fld 0 1 (E.var 3)))))
  (S.seq (S.forE (Z.seq (E.fld 1 0 (E.var 0))) (S.tgt 3)
  (S.set 2 (E.op2 gcdI (E.var 2) (E.op2 mulI (E.fld 0 0 (E.var 3)) (E.op2 fdivI (E.var 1) (E.fld 0 1 (E.var 3)))))))
  (S.seq (S.ite (T.tst (E.op2 ltI (E.fld 0 0 (E.meth 1 f_Poly_last (E.var 0) E.nil)) (E.c (.int 0))))
  (S.set 2 (E.op1 negI (E.var 2)))
  S.skip)
  (S.seq (S.set 4 (E.asTup (E.comp [3] (Z.seq (E.fld 1 0 (E.var 0))) (S.tgt 3) T.yes (E.op2 fdivI (E.op2 mulI (E.fld 0 0 (E.var 3)) (E.op2 fdivI (E.var 1) (E.fld 0 1 (E.var 3)))) (E.var 2)))))
  (S.ret (E.tupl (E.cons (E.app (objR 0 f_Ratio_init_2) (E.cons (E.var 2) (E.cons (E.var 1) E.nil))) (E.cons (E.var 4) E.nil)))))))))
theorem no_Poly_primitive {Γ : Gam} (B : Base Γ) : ("primitive" : Str) ∉ Γ.fld 1 := by rw [B.fl_Poly]; decide
theorem bd_Poly_primitive {Γ : Gam} (T : Top Γ) (B : Base Γ) : Body Γ (42) ["self", "scale", "common", "c", "numbers"] "Poly.primitive" (defScope st_Poly_primitive) (He.ma Γ.K (He.ga Γ.K "Poly") "primitive") (defBody st_Poly_primitive) b_Poly_primitive := fun _ _ _ _ _ _ =>
 (dss_cons (ds_asg (dg_tup (dgs_cons (dg_name 1 sc_Poly_primitive.nd) (dgs_cons (dg_name 2 sc_Poly_primitive.nd) dgs_nil))) (de_tupl (da_cons de_int (da_cons de_int da_nil))))
  (dss_cons (ds_for (di_seq (de_fld B.k_Poly (fld_Poly_row B) (de_var 0))) (dg_name 3 sc_Poly_primitive.nd)
  (dss_one (ds_set 1 sc_Poly_primitive.nd (he := (de_lcm (de_var 1) (de_fld B.k_Ratio (fld_Ratio_d B) (de_var 3)) B.lcm)))))
  (dss_cons (ds_for (di_seq (de_fld B.k_Poly (fld_Poly_row B) (de_var 0))) (dg_name 3 sc_Poly_primitive.nd)
  (dss_one (ds_set 2 sc_Poly_primitive.nd (he := (de_gcd (de_var 2) (de_op2 od_mul mulI_n (de_fld B.k_Ratio (fld_Ratio_n B) (de_var 3)) (de_op2 od_fdiv fdivI_n (de_var 1) (de_fld B.k_Ratio (fld_Ratio_d B) (de_var 3)))) B.gcd)))))
  (dss_cons (ds_ite (dt_cmp od_lt ltI_n (de_fld B.k_Ratio (fld_Ratio_n B) (de_meth0 B.k_Poly (calM_Poly_last T B) (de_var 0))) de_int (nomark _))
  (dss_one (ds_set 2 sc_Poly_primitive.nd (he := (de_neg (de_var 2)))))
  dss_nil)
  (dss_cons (ds_set 4 sc_Poly_primitive.nd (he := (de_tuple (dq_df (df_lc [("c", 3)] sc_Poly_primitive.nd (dc_di (di_seq (de_fld B.k_Poly (fld_Poly_row B) (de_var 0)))) (fun _ _ _ _ _ => (dgw_name 3 sc_Poly_primitive.nd)) (fun _ _ _ _ _ => dts_nil) (fun _ _ _ _ _ => (de_op2 od_fdiv fdivI_n (de_op2 od_mul mulI_n (de_fld B.k_Ratio (fld_Ratio_n B) (de_var 3)) (de_op2 od_fdiv fdivI_n (de_var 1) (de_fld B.k_Ratio (fld_Ratio_d B) (de_var 3)))) (de_var 2))))) B.n_tuple)))
  (dss_one (ds_ret (de_tupl (da_cons (de_make B.k_Ratio (calI_Ratio_2 T B) (da_cons (de_var 2) (da_cons (de_var 1) da_nil))) (da_cons (de_var 4) da_nil))))))))))
def f_Poly_primitive : List D → Res D := runD 5 1 b_Poly_primitive
theorem ok_Poly_primitive {Γ : Gam} (T : Top Γ) (B : Base Γ) : Cal Γ 43 (He.ma Γ.K (He.ga Γ.K "Poly") "primitive") f_Poly_primitive := cal_mk B.fd_Poly_primitive sc_Poly_primitive T (bd_Poly_primitive T B) (fun _ _ _ _ _ _ us hl => match us, hl with | [_], _ => rfl)
theorem calM_Poly_primitive {Γ : Gam} (T : Top Γ) (B : Base Γ) : CalM Γ 43 1 "primitive" f_Poly_primitive := ⟨⟨_, B.mt_Poly_primitive, ok_Poly_primitive T B⟩, no_Poly_primitive B⟩
/-! _primitive_row -/
theorem sc_primitive_row : FnScope ["row", "size", "common", "n"] ["row"] (defScope st_primitive_row) := ⟨rfl, rfl, rfl, by decide +kernel, rfl, by decide +kernel, by decide +kernel⟩
def b_primitive_row : Env → Out :=
 (S.seq (S.set 1 (E.len (Z.seq (E.var 0))))
  (S.seq (S.whil (fuelI 1) (T.and (T.tst (E.op2 gtI (E.var 1) (E.c (.int 0)))) (T.tst (E.op2 eqS (E.ix (Z.seq (E.var 0)) (E.op2 subI (E.var 1) (E.c (.int 1)))) (E.c (.int 0)))))
  (S.set 1 (E.op2 subI (E.var 1) (E.c (.int 1)))))
  (S.seq (S.set 2 (E.c (.int 0)))
  (S.seq (S.forE (E.cutL (Z.lst (E.var 0)) E.nopart (E.part (E.var 1))) (S.tgt 3)
  (S.set 2 (E.op2 gcdI (E.var 2) (E.var 3))))
  (S.seq (S.ite (T.tst (E.op2 ltI (E.var 2) (E.c (.int 2))))
  (S.retF (E.cutL (Z.lst (E.var 0)) E.nopart (E.part (E.var 1))))
  S.skip)
  (S.retF (E.comp [3] (E.cutL (Z.lst (E.var 0)) E.nopart (E.part (E.var 1))) (S.tgt 3) T.yes (E.op2 fdivI (E.var 3) (E.var 2)))))))))
theorem bd_primitive_row {Γ : Gam} (T : Top Γ) (B : Base Γ) : Body Γ (40) ["row", "size", "common", "n"] "_primitive_row" (defScope st_primitive_row) (He.ga Γ.K "_primitive_row") (defBody st_primitive_row) b_primitive_row := fun _ _ _ _ _ _ =>
 (dss_cons (ds_set 1 sc_primitive_row.nd (he := (de_lenY (dy_seq (de_var 0)) B.n_len)))
  (dss_cons (ds_while (fuelI 1) (dt_bool (dw_and (dt_cmp od_gt gtI_n (de_var 1) de_int (nomark _)) (dw_and1 (dt_cmp od_eqS eqS_n (de_ixY (dy_seq (de_var 0)) (de_op2 od_sub subI_n (de_var 1) de_int)) de_int (nomark _)))))
  (dss_one (ds_set 1 sc_primitive_row.nd (he := (de_op2 od_sub subI_n (de_var 1) de_int)))))
  (dss_cons (ds_set 2 sc_primitive_row.nd (he := de_int))
  (dss_cons (ds_for (di_df (df_cut (dq_lst (de_var 0)) dp_none (dp_some (de_var 1)))) (dg_name 3 sc_primitive_row.nd)
  (dss_one (ds_set 2 sc_primitive_row.nd (he := (de_gcd (de_var 2) (de_var 3) B.gcd)))))
  (dss_cons (ds_ite (dt_cmp od_lt ltI_n (de_var 2) de_int (nomark _))
  (dss_one (ds_retF (df_cut (dq_lst (de_var 0)) dp_none (dp_some (de_var 1)))))
  dss_nil)
  (dss_one (ds_retF (df_lc [("n", 3)] sc_primitive_row.nd (dc_di (di_df (df_cut (dq_lst (de_var 0)) dp_none (dp_some (de_var 1))))) (fun _ _ _ _ _ => (dgw_name 3 sc_primitive_row.nd)) (fun _ _ _ _ _ => dts_nil) (fun _ _ _ _ _ => (de_op2 od_fdiv fdivI_n (de_var 3) (de_var 2)))))))))))
def f_primitive_row : List D → Res (List D) := runF 4 1 b_primitive_row
theorem ok_primitive_row {Γ : Gam} (T : Top Γ) (B : Base Γ) : CalF Γ 41 (He.ga Γ.K "_primitive_row") f_primitive_row := calF_mk B.fd_primitive_row sc_primitive_row T (bd_primitive_row T B) (fun _ _ _ _ _ _ us hl => match us, hl with | [_], _ => rfl)
/-! _integer_rest -/
theorem sc_integer_rest : FnScope ["first", "second", "rest", "head", "common", "times", "factor", "shift", "n", "at"] ["first", "second"] (defScope st_integer_rest) := ⟨rfl, rfl, rfl, by decide +kernel, rfl, by decide +kernel, by decide +kernel⟩
def b_integer_rest : Env → Out :=
 (S.seq (S.setF 2 (Z.seq (E.var 0)))
  (S.seq (S.set 3 (E.ix (Z.seq (E.var 1)) (E.op2 subI (E.len (Z.seq (E.var 1))) (E.c (.int 1)))))
  (S.seq (S.whil (fuelW 2) (T.tst (E.op2 geI (E.len (Z.own 2)) (E.len (Z.seq (E.var 1)))))
  (S.seq (S.set 4 (E.op2 gcdI (E.var 3) (E.ix (Z.own 2) (E.op2 subI (E.len (Z.own 2)) (E.c (.int 1))))))
  (S.seq (S.set 5 (E.op2 fdivI (E.var 3) (E.var 4)))
  (S.seq (S.set 6 (E.op2 fdivI (E.ix (Z.own 2) (E.op2 subI (E.len (Z.own 2)) (E.c (.int 1)))) (E.var 4)))
  (S.seq (S.set 7 (E.op2 subI (E.len (Z.own 2)) (E.len (Z.seq (E.var 1)))))
  (S.seq (S.setF 2 (E.comp [8] (Z.own 2) (S.tgt 8) T.yes (E.op2 mulI (E.var 5) (E.var 8))))
  (S.seq (S.forE (Z.enum (Z.seq (E.var 1))) (S.gtup 2 (S.gcons (S.tgt 9) (S.gcons (S.tgt 8) S.gnil)))
  (S.setAt 2 (E.op2 addI (E.var 7) (E.var 9)) (E.op2 subI (E.ix (Z.own 2) (E.op2 addI (E.var 7) (E.var 9))) (E.op2 mulI (E.var 6) (E.var 8)))))
  (S.whil (fuelW 2) (T.and (T.tst (E.op2 gtI (E.len (Z.own 2)) (E.c (.int 0)))) (T.tst (E.op2 eqS (E.ix (Z.own 2) (E.op2 subI (E.len (Z.own 2)) (E.c (.int 1)))) (E.c (.int 0)))))
  (S.pop 2)))))))))
  (S.freeze 2 (S.retF (E.appF f_primitive_row (E.cons (E.var 2) E.nil)))))))
theorem bd_integer_rest {Γ : Gam} (T : Top Γ) (B : Base Γ) : Body Γ (41) ["first", "second", "rest", "head", "common", "times", "factor", "shift", "n", "at"] "_integer_rest" (defScope st_integer_rest) (He.ga Γ.K "_integer_rest") (defBody st_integer_rest) b_integer_rest := fun _ _ _ _ _ _ =>
 (dss_cons (ds_setF 2 sc_integer_rest.nd (he := (df_listY (dy_seq (de_var 0)) B.n_list)))
  (dss_cons (ds_set 3 sc_integer_rest.nd (he := (de_ixY (dy_seq (de_var 1)) (de_op2 od_sub subI_n (de_lenY (dy_seq (de_var 1)) B.n_len) de_int))))
  (dss_cons (ds_while (fuelW 2) (dt_cmp od_ge geI_n (de_lenY (dy_dq (dq_own 2)) B.n_len) (de_lenY (dy_seq (de_var 1)) B.n_len) (nomark _))
  (dss_cons (ds_set 4 sc_integer_rest.nd (he := (de_gcd (de_var 3) (de_ixY (dy_dq (dq_own 2)) (de_op2 od_sub subI_n (de_lenY (dy_dq (dq_own 2)) B.n_len) de_int)) B.gcd)))
  (dss_cons (ds_set 5 sc_integer_rest.nd (he := (de_op2 od_fdiv fdivI_n (de_var 3) (de_var 4))))
  (dss_cons (ds_set 6 sc_integer_rest.nd (he := (de_op2 od_fdiv fdivI_n (de_ixY (dy_dq (dq_own 2)) (de_op2 od_sub subI_n (de_lenY (dy_dq (dq_own 2)) B.n_len) de_int)) (de_var 4))))
  (dss_cons (ds_set 7 sc_integer_rest.nd (he := (de_op2 od_sub subI_n (de_lenY (dy_dq (dq_own 2)) B.n_len) (de_lenY (dy_seq (de_var 1)) B.n_len))))
  (dss_cons (ds_setFLc 2 [("n", 8)] sc_integer_rest.nd (dc_list (dq_own 2)) (fun _ _ _ _ _ => (dgw_name 8 sc_integer_rest.nd)) (fun _ _ _ _ _ => dts_nil) (fun _ _ _ _ _ => (de_op2 od_mul mulI_n (de_var 5) (de_var 8))))
  (dss_cons (ds_for (di_enumY (dky_seq (de_var 1)) B.n_enumerate) (dg_tup (dgs_cons (dg_name 9 sc_integer_rest.nd) (dgs_cons (dg_name 8 sc_integer_rest.nd) dgs_nil)))
  (dss_one (ds_setAt 2 (de_op2 od_sub subI_n (de_ixY (dy_dq (dq_own 2)) (de_op2 od_add addI_n (de_var 7) (de_var 9))) (de_op2 od_mul mulI_n (de_var 6) (de_var 8))) (de_op2 od_add addI_n (de_var 7) (de_var 9)))))
  (dss_one (ds_while (fuelW 2) (dt_bool (dw_and (dt_cmp od_gt gtI_n (de_lenY (dy_dq (dq_own 2)) B.n_len) de_int (nomark _)) (dw_and1 (dt_cmp od_eqS eqS_n (de_ixY (dy_dq (dq_own 2)) (de_op2 od_sub subI_n (de_lenY (dy_dq (dq_own 2)) B.n_len) de_int)) de_int (nomark _)))))
  (dss_one (ds_pop 2)))))))))))
  (dss_freeze 2 (dss_one (ds_retF (df_call B.g_primitive_row (ok_primitive_row T B) (da_cons (de_var 2) da_nil))))))))
def f_integer_rest : List D → Res (List D) := runF 10 2 b_integer_rest
theorem ok_integer_rest {Γ : Gam} (T : Top Γ) (B : Base Γ) : CalF Γ 42 (He.ga Γ.K "_integer_rest") f_integer_rest := calF_mk B.fd_integer_rest sc_integer_rest T (bd_integer_rest T B) (fun _ _ _ _ _ _ us hl => match us, hl with | [_, _], _ => rfl)
/-! common_divisor -/
theorem sc_common_divisor : FnScope ["p", "q", "first", "second", "head", "n"] ["p", "q"] (defScope st_common_divisor) := ⟨rfl, rfl, rfl, by decide +kernel, rfl, by decide +kernel, by decide +kernel⟩
def b_common_divisor : Env → Out :=
 (S.seq (S.ite (T.or (T.tst (E.meth 1 f_Poly_is_zero (E.var 0) E.nil)) (T.tst (E.meth 1 f_Poly_is_zero (E.var 1) E.nil)))
  (S.ret (E.ite (T.tst (E.meth 1 f_Poly_is_zero (E.var 1) E.nil)) (E.meth 1 f_Poly_monic (E.var 0) E.nil) (E.meth 1 f_Poly_monic (E.var 1) E.nil)))
  S.skip)
  (S.seq (S.ite (T.or (T.tst (E.op2 eqS (E.meth 1 f_Poly_degree (E.var 0) E.nil) (E.c (.int 0)))) (T.tst (E.op2 eqS (E.meth 1 f_Poly_degree (E.var 1) E.nil) (E.c (.int 0)))))
  (S.ret (E.app (objR 1 f_Poly_init_1) (E.cons (E.tupl (E.cons (E.c (.int 1)) E.nil)) E.nil)))
  S.skip)
  (S.seq (S.par 2 3 (E.cons (E.lst (Z.seq (E.ix (Z.seq (E.meth 1 f_Poly_primitive (E.var 0) E.nil)) (E.c (.int 1))))) (E.cons (E.lst (Z.seq (E.ix (Z.seq (E.meth 1 f_Poly_primitive (E.var 1) E.nil)) (E.c (.int 1))))) E.nil)))
  (S.seq (S.whil (fuelL 3) (T.tst (E.op2 gtI (E.len (Z.seq (E.var 3))) (E.c (.int 0))))
  (S.par 2 3 (E.cons (E.var 3) (E.cons (E.lst (E.appF f_integer_rest (E.cons (E.var 2) (E.cons (E.var 3) E.nil)))) E.nil))))
  (S.seq (S.set 4 (E.ix (Z.seq (E.var 2)) (E.op2 subI (E.len (Z.seq (E.var 2))) (E.c (.int 1)))))
  (S.ret (E.app (objR 1 f_Poly_init_1) (E.cons (E.lst (E.comp [5] (Z.seq (E.var 2)) (S.tgt 5) T.yes (E.app (objR 0 f_Ratio_init_2) (E.cons (E.var 5) (E.cons (E.var 4) E.nil))))) E.nil))))))))
theorem bd_common_divisor {Γ : Gam} (T : Top Γ) (B : Base Γ) : Body Γ (46) ["p", "q", "first", "second", "head", "n"] "common_divisor" (defScope st_common_divisor) (He.ga Γ.K "common_divisor") (defBody st_common_divisor) b_common_divisor := fun _ _ _ _ _ _ =>
 (dss_cons (ds_ite (dt_bool (dw_or (dt_val (de_meth0 B.k_Poly (calM_Poly_is_zero T B) (de_var 0))) (dw_or1 (dt_val (de_meth0 B.k_Poly (calM_Poly_is_zero T B) (de_var 1))))))
  (dss_one (ds_ret (de_ite (dt_val (de_meth0 B.k_Poly (calM_Poly_is_zero T B) (de_var 1))) (de_meth0 B.k_Poly (calM_Poly_monic T B) (de_var 0)) (de_meth0 B.k_Poly (calM_Poly_monic T B) (de_var 1)))))
  dss_nil)
  (dss_cons (ds_ite (dt_bool (dw_or (dt_cmp od_eqS eqS_n (de_meth0 B.k_Poly (calM_Poly_degree T B) (de_var 0)) de_int (nomark _)) (dw_or1 (dt_cmp od_eqS eqS_n (de_meth0 B.k_Poly (calM_Poly_degree T B) (de_var 1)) de_int (nomark _)))))
  (dss_one (ds_ret (de_make B.k_Poly (calI_Poly_1 T B) (da_cons (de_tupl (da_cons de_int da_nil)) da_nil))))
  dss_nil)
  (dss_cons (ds_par 2 3 sc_common_divisor.nd (da_cons (de_lst (df_listY (dy_seq (de_ixY (dy_seq (de_meth0 B.k_Poly (calM_Poly_primitive T B) (de_var 0))) de_int)) B.n_list)) (da_cons (de_lst (df_listY (dy_seq (de_ixY (dy_seq (de_meth0 B.k_Poly (calM_Poly_primitive T B) (de_var 1))) de_int)) B.n_list)) da_nil)))
  (dss_cons (ds_while (fuelL 3) (dt_cmp od_gt gtI_n (de_lenY (dy_seq (de_var 3)) B.n_len) de_int (nomark _))
  (dss_one (ds_par 2 3 sc_common_divisor.nd (da_cons (de_var 3) (da_cons (de_lst (df_call B.g_integer_rest (ok_integer_rest T B) (da_cons (de_var 2) (da_cons (de_var 3) da_nil)))) da_nil)))))
  (dss_cons (ds_set 4 sc_common_divisor.nd (he := (de_ixY (dy_seq (de_var 2)) (de_op2 od_sub subI_n (de_lenY (dy_seq (de_var 2)) B.n_len) de_int))))
  (dss_one (ds_ret (de_make B.k_Poly (calI_Poly_1 T B) (da_cons (de_lst (df_lc [("n", 5)] sc_common_divisor.nd (dc_di (di_seq (de_var 2))) (fun _ _ _ _ _ => (dgw_name 5 sc_common_divisor.nd)) (fun _ _ _ _ _ => dts_nil) (fun _ _ _ _ _ => (de_make B.k_Ratio (calI_Ratio_2 T B) (da_cons (de_var 5) (da_cons (de_var 4) da_nil)))))) da_nil)))))))))
def f_common_divisor : List D → Res D := runD 6 2 b_common_divisor
theorem ok_common_divisor {Γ : Gam} (T : Top Γ) (B : Base Γ) : Cal Γ 47 (He.ga Γ.K "common_divisor") f_common_divisor := cal_mk B.fd_common_divisor sc_common_divisor T (bd_common_divisor T B) (fun _ _ _ _ _ _ us hl => match us, hl with | [_, _], _ => rfl)
/-! law -/
theorem sc_law : FnScope ["_law_script", "_law_row_here", "_law_h", "_law_a", "_law_b", "_law_c", "_law_told", "_law_s", "_law_t", "_law_g", "_law_extra"] ["_law_script"] (defScope st_law) := ⟨rfl, rfl, rfl, by decide +kernel, rfl, by decide +kernel, by decide +kernel⟩
def b_law : Env → Out :=
 (S.seq (S.set 1 (E.lst (E.appF f_law_draws (E.cons (E.var 0) (E.cons (E.c (.int 0)) (E.cons (E.c (.int 50)) (E.cons (E.c (.int 95)) E.nil)))))))
  (S.seq (S.set 2 (E.app f_law_trim (E.cons (E.lst (E.cat (E.cutL (E.disp (E.cons (E.app f_law_small (E.cons (E.ix (Z.seq (E.var 1)) (E.c (.int 4))) (E.cons (E.ix (Z.seq (E.var 1)) (E.c (.int 5))) E.nil))) (E.cons (E.app f_law_small (E.cons (E.ix (Z.seq (E.var 1)) (E.c (.int 6))) (E.cons (E.ix (Z.seq (E.var 1)) (E.c (.int 7))) E.nil))) E.nil))) E.nopart (E.part (E.op2 modI (E.ix (Z.seq (E.var 1)) (E.c (.int 0))) (E.c (.int 3))))) (E.disp (E.cons (E.tupl (E.cons (E.c (.int 1)) (E.cons (E.c (.int 1)) E.nil))) E.nil)))) E.nil)))
  (S.seq (S.set 3 (E.app f_law_pmul (E.cons (E.var 2) (E.cons (E.app f_law_poly (E.cons (E.lst (E.cutL (Z.lst (E.var 1)) (E.part (E.c (.int 10))) (E.part (E.c (.int 18))))) (E.cons (E.op2 modI (E.ix (Z.seq (E.var 1)) (E.c (.int 1))) (E.c (.int 4))) E.nil))) E.nil))))
  (S.seq (S.set 4 (E.app f_law_pmul (E.cons (E.var 2) (E.cons (E.app f_law_poly (E.cons (E.lst (E.cutL (Z.lst (E.var 1)) (E.part (E.c (.int 18))) (E.part (E.c (.int 26))))) (E.cons (E.op2 modI (E.ix (Z.seq (E.var 1)) (E.c (.int 2))) (E.c (.int 4))) E.nil))) E.nil))))
  (S.seq (S.ite (T.or (T.tst (E.op2 eqS (E.op2 modI (E.ix (Z.seq (E.var 1)) (E.c (.int 3))) (E.c (.int 6))) (E.c (.int 0)))) (T.tst (E.op2 eqS (E.op2 modI (E.ix (Z.seq (E.var 1)) (E.c (.int 3))) (E.c (.int 12))) (E.c (.int 2)))))
  (S.set 4 (E.tupl E.nil))
  S.skip)
  (S.seq (S.ite (T.or (T.tst (E.op2 eqS (E.op2 modI (E.ix (Z.seq (E.var 1)) (E.c (.int 3))) (E.c (.int 6))) (E.c (.int 1)))) (T.tst (E.op2 eqS (E.op2 modI (E.ix (Z.seq (E.var 1)) (E.c (.int 3))) (E.c (.int 12))) (E.c (.int 2)))))
  (S.set 3 (E.tupl E.nil))
  S.skip)
  (S.seq (S.set 5 (E.app f_law_padd (E.cons (E.app f_law_pmul (E.cons (E.app f_law_poly (E.cons (E.lst (E.cutL (Z.lst (E.var 1)) (E.part (E.c (.int 26))) (E.part (E.c (.int 34))))) (E.cons (E.c (.int 4)) E.nil))) (E.cons (E.var 3) E.nil))) (E.cons (E.app f_law_pmul (E.cons (E.app f_law_poly (E.cons (E.lst (E.cutL (Z.lst (E.var 1)) (E.part (E.c (.int 34))) (E.part (E.c (.int 42))))) (E.cons (E.c (.int 4)) E.nil))) (E.cons (E.var 4) E.nil))) E.nil))))
  (S.seq (S.set 6 (E.app f_combine_to (E.cons (E.app f_law_make (E.cons (E.var 3) E.nil)) (E.cons (E.app f_law_make (E.cons (E.var 4) E.nil)) (E.cons (E.app f_law_make (E.cons (E.var 5) E.nil)) E.nil)))))
  (S.seq (S.ite (T.or (T.not (T.tst (E.op1 (isiR isi_tuple) (E.var 6)))) (T.tst (E.op2 neS (E.len (Z.seq (E.var 6))) (E.c (.int 2)))))
  (S.ret (E.c (.bl false)))
  S.skip)
  (S.seq (S.par 7 8 (E.cons (E.app f_law_row (E.cons (E.ix (Z.seq (E.var 6)) (E.c (.int 0))) E.nil)) (E.cons (E.app f_law_row (E.cons (E.ix (Z.seq (E.var 6)) (E.c (.int 1))) E.nil)) E.nil)))
  (S.seq (S.ite (T.or (T.tst (E.op1 isN (E.var 7))) (T.or (T.tst (E.op1 isN (E.var 8))) (T.tst (E.op2 neD (E.app f_law_padd (E.cons (E.app f_law_pmul (E.cons (E.var 7) (E.cons (E.var 3) E.nil))) (E.cons (E.app f_law_pmul (E.cons (E.var 8) (E.cons (E.var 4) E.nil))) E.nil))) (E.var 5)))))
  (S.ret (E.c (.bl false)))
  S.skip)
  (S.seq (S.set 9 (E.app f_law_row (E.cons (E.app f_common_divisor (E.cons (E.app f_law_make (E.cons (E.var 3) E.nil)) (E.cons (E.app f_law_make (E.cons (E.var 4) E.nil)) E.nil))) E.nil)))
  (S.seq (S.ite (T.or (T.and (T.tst (E.op2 eqD (E.var 4) (E.tupl E.nil))) (T.tst (E.op2 neD (E.var 8) (E.tupl E.nil)))) (T.and (T.tst (E.op2 eqD (E.var 4) (E.tupl E.nil))) (T.and (T.tst (E.op2 eqD (E.var 3) (E.tupl E.nil))) (T.tst (E.op2 neD (E.var 7) (E.tupl E.nil))))))
  (S.ret (E.c (.bl false)))
  S.skip)
  (S.seq (S.ite (T.and (T.tst (E.op2 neD (E.var 4) (E.tupl E.nil))) (T.and (T.tst (E.op2 neD (E.var 7) (E.tupl E.nil))) (T.tst (E.op2 gtI (E.len (Z.seq (E.var 7))) (E.op2 subI (E.len (Z.seq (E.var 4))) (E.len (Z.seq (E.var 9))))))))
  (S.ret (E.c (.bl false)))
  S.skip)
  (S.seq (S.set 10 (E.app f_law_small (E.cons (E.ix (Z.seq (E.var 1)) (E.c (.int 42))) (E.cons (E.ix (Z.seq (E.var 1)) (E.c (.int 43))) E.nil))))
  (S.seq (S.ite (T.tst (E.op2 eqS (E.ix (Z.seq (E.var 10)) (E.c (.int 0))) (E.c (.int 0))))
  (S.set 10 (E.tupl (E.cons (E.c (.int 1)) (E.cons (E.c (.int 2)) E.nil))))
  S.skip)
  (S.seq (S.ite (T.or (T.tst (E.op2 gtI (E.len (Z.seq (E.var 2))) (E.c (.int 1)))) (T.tst (E.op2 eqD (E.var 9) (E.tupl E.nil))))
  (S.ret (E.op1 isN (E.app f_combine_to (E.cons (E.app f_law_make (E.cons (E.var 3) E.nil)) (E.cons (E.app f_law_make (E.cons (E.var 4) E.nil)) (E.cons (E.app f_law_make (E.cons (E.app f_law_padd (E.cons (E.var 5) (E.cons (E.tupl (E.cons (E.var 10) E.nil)) E.nil))) E.nil)) E.nil))))))
  S.skip)
  (S.ret (E.c (.bl true))))))))))))))))))))
theorem bd_law {Γ : Gam} (T : Top Γ) (B : Base Γ) : Body Γ (48) ["_law_script", "_law_row_here", "_law_h", "_law_a", "_law_b", "_law_c", "_law_told", "_law_s", "_law_t", "_law_g", "_law_extra"] "law" (defScope st_law) (He.ga Γ.K "law") (defBody st_law) b_law := fun _ _ _ _ _ _ =>
 (dss_cons (ds_set 1 sc_law.nd (he := (de_lst (df_call B.g_law_draws (ok_law_draws T B) (da_cons (de_var 0) (da_cons de_int (da_cons de_int (da_cons de_int da_nil))))))))
  (dss_cons (ds_set 2 sc_law.nd (he := (de_call B.g_law_trim (ok_law_trim T B) (da_cons (de_lst (df_cat (dl_df (df_cut (dq_df (df_lst (da_cons (de_call B.g_law_small (ok_law_small T B) (da_cons (de_ixY (dy_seq (de_var 1)) de_int) (da_cons (de_ixY (dy_seq (de_var 1)) de_int) da_nil))) (da_cons (de_call B.g_law_small (ok_law_small T B) (da_cons (de_ixY (dy_seq (de_var 1)) de_int) (da_cons (de_ixY (dy_seq (de_var 1)) de_int) da_nil))) da_nil)))) dp_none (dp_some (de_op2 od_mod modI_n (de_ixY (dy_seq (de_var 1)) de_int) de_int)))) (dl_df (df_lst (da_cons (de_tupl (da_cons de_int (da_cons de_int da_nil))) da_nil))))) da_nil))))
  (dss_cons (ds_set 3 sc_law.nd (he := (de_call B.g_law_pmul (ok_law_pmul T B) (da_cons (de_var 2) (da_cons (de_call B.g_law_poly (ok_law_poly T B) (da_cons (de_lst (df_cut (dq_lst (de_var 1)) (dp_some de_int) (dp_some de_int))) (da_cons (de_op2 od_mod modI_n (de_ixY (dy_seq (de_var 1)) de_int) de_int) da_nil))) da_nil)))))
  (dss_cons (ds_set 4 sc_law.nd (he := (de_call B.g_law_pmul (ok_law_pmul T B) (da_cons (de_var 2) (da_cons (de_call B.g_law_poly (ok_law_poly T B) (da_cons (de_lst (df_cut (dq_lst (de_var 1)) (dp_some de_int) (dp_some de_int))) (da_cons (de_op2 od_mod modI_n (de_ixY (dy_seq (de_var 1)) de_int) de_int) da_nil))) da_nil)))))
  (dss_cons (ds_ite (dt_bool (dw_or (dt_cmp od_eqS eqS_n (de_op2 od_mod modI_n (de_ixY (dy_seq (de_var 1)) de_int) de_int) de_int (nomark _)) (dw_or1 (dt_cmp od_eqS eqS_n (de_op2 od_mod modI_n (de_ixY (dy_seq (de_var 1)) de_int) de_int) de_int (nomark _)))))
  (dss_one (ds_set 4 sc_law.nd (he := (de_tupl da_nil))))
  dss_nil)
  (dss_cons (ds_ite (dt_bool (dw_or (dt_cmp od_eqS eqS_n (de_op2 od_mod modI_n (de_ixY (dy_seq (de_var 1)) de_int) de_int) de_int (nomark _)) (dw_or1 (dt_cmp od_eqS eqS_n (de_op2 od_mod modI_n (de_ixY (dy_seq (de_var 1)) de_int) de_int) de_int (nomark _)))))
  (dss_one (ds_set 3 sc_law.nd (he := (de_tupl da_nil))))
  dss_nil)
  (dss_cons (ds_set 5 sc_law.nd (he := (de_call B.g_law_padd (ok_law_padd T B) (da_cons (de_call B.g_law_pmul (ok_law_pmul T B) (da_cons (de_call B.g_law_poly (ok_law_poly T B) (da_cons (de_lst (df_cut (dq_lst (de_var 1)) (dp_some de_int) (dp_some de_int))) (da_cons de_int da_nil))) (da_cons (de_var 3) da_nil))) (da_cons (de_call B.g_law_pmul (ok_law_pmul T B) (da_cons (de_call B.g_law_poly (ok_law_poly T B) (da_cons (de_lst (df_cut (dq_lst (de_var 1)) (dp_some de_int) (dp_some de_int))) (da_cons de_int da_nil))) (da_cons (de_var 4) da_nil))) da_nil)))))
  (dss_cons (ds_set 6 sc_law.nd (he := (de_call B.g_combine_to (ok_combine_to T B) (da_cons (de_call B.g_law_make (ok_law_make T B) (da_cons (de_var 3) da_nil)) (da_cons (de_call B.g_law_make (ok_law_make T B) (da_cons (de_var 4) da_nil)) (da_cons (de_call B.g_law_make (ok_law_make T B) (da_cons (de_var 5) da_nil)) da_nil))))))
  (dss_cons (ds_ite (dt_bool (dw_or (dt_not (dt_val (de_isiT B.isi_tuple (de_var 6) B.n_isinstance B.n_tuple (by decide +kernel)))) (dw_or1 (dt_cmp od_neS neS_n (de_lenY (dy_seq (de_var 6)) B.n_len) de_int (nomark _)))))
  (dss_one (ds_ret de_bl))
  dss_nil)
  (dss_cons (ds_par 7 8 sc_law.nd (da_cons (de_call B.g_law_row (ok_law_row T B) (da_cons (de_ixY (dy_seq (de_var 6)) de_int) da_nil)) (da_cons (de_call B.g_law_row (ok_law_row T B) (da_cons (de_ixY (dy_seq (de_var 6)) de_int) da_nil)) da_nil)))
  (dss_cons (ds_ite (dt_bool (dw_or (dt_isN (de_var 7)) (dw_or (dt_isN (de_var 8)) (dw_or1 (dt_cmp od_neD neD_n (de_call B.g_law_padd (ok_law_padd T B) (da_cons (de_call B.g_law_pmul (ok_law_pmul T B) (da_cons (de_var 7) (da_cons (de_var 3) da_nil))) (da_cons (de_call B.g_law_pmul (ok_law_pmul T B) (da_cons (de_var 8) (da_cons (de_var 4) da_nil))) da_nil))) (de_var 5) (nomark _))))))
  (dss_one (ds_ret de_bl))
  dss_nil)
  (dss_cons (ds_set 9 sc_law.nd (he := (de_call B.g_law_row (ok_law_row T B) (da_cons (de_call B.g_common_divisor (ok_common_divisor T B) (da_cons (de_call B.g_law_make (ok_law_make T B) (da_cons (de_var 3) da_nil)) (da_cons (de_call B.g_law_make (ok_law_make T B) (da_cons (de_var 4) da_nil)) da_nil))) da_nil))))
  (dss_cons (ds_ite (dt_bool (dw_or (dt_bool (dw_and (dt_cmp od_eqD eqD_n (de_var 4) (de_tupl da_nil) (nomark _)) (dw_and1 (dt_cmp od_neD neD_n (de_var 8) (de_tupl da_nil) (nomark _))))) (dw_or1 (dt_bool (dw_and (dt_cmp od_eqD eqD_n (de_var 4) (de_tupl da_nil) (nomark _)) (dw_and (dt_cmp od_eqD eqD_n (de_var 3) (de_tupl da_nil) (nomark _)) (dw_and1 (dt_cmp od_neD neD_n (de_var 7) (de_tupl da_nil) (nomark _)))))))))
  (dss_one (ds_ret de_bl))
  dss_nil)
  (dss_cons (ds_ite (dt_bool (dw_and (dt_cmp od_neD neD_n (de_var 4) (de_tupl da_nil) (nomark _)) (dw_and (dt_cmp od_neD neD_n (de_var 7) (de_tupl da_nil) (nomark _)) (dw_and1 (dt_cmp od_gt gtI_n (de_lenY (dy_seq (de_var 7)) B.n_len) (de_op2 od_sub subI_n (de_lenY (dy_seq (de_var 4)) B.n_len) (de_lenY (dy_seq (de_var 9)) B.n_len)) (nomark _))))))
  (dss_one (ds_ret de_bl))
  dss_nil)
  (dss_cons (ds_set 10 sc_law.nd (he := (de_call B.g_law_small (ok_law_small T B) (da_cons (de_ixY (dy_seq (de_var 1)) de_int) (da_cons (de_ixY (dy_seq (de_var 1)) de_int) da_nil)))))
  (dss_cons (ds_ite (dt_cmp od_eqS eqS_n (de_ixY (dy_seq (de_var 10)) de_int) de_int (nomark _))
  (dss_one (ds_set 10 sc_law.nd (he := (de_tupl (da_cons de_int (da_cons de_int da_nil))))))
  dss_nil)
  (dss_cons (ds_ite (dt_bool (dw_or (dt_cmp od_gt gtI_n (de_lenY (dy_seq (de_var 2)) B.n_len) de_int (nomark _)) (dw_or1 (dt_cmp od_eqD eqD_n (de_var 9) (de_tupl da_nil) (nomark _)))))
  (dss_one (ds_ret (de_isN (de_call B.g_combine_to (ok_combine_to T B) (da_cons (de_call B.g_law_make (ok_law_make T B) (da_cons (de_var 3) da_nil)) (da_cons (de_call B.g_law_make (ok_law_make T B) (da_cons (de_var 4) da_nil)) (da_cons (de_call B.g_law_make (ok_law_make T B) (da_cons (de_call B.g_law_padd (ok_law_padd T B) (da_cons (de_var 5) (da_cons (de_tupl (da_cons (de_var 10) da_nil)) da_nil))) da_nil)) da_nil)))))))
  dss_nil)
  (dss_one (ds_ret de_bl)))))))))))))))))))
def f_law : List D → Res D := runD 11 1 b_law
theorem ok_law {Γ : Gam} (T : Top Γ) (B : Base Γ) : Cal Γ 49 (He.ga Γ.K "law") f_law := cal_mk B.fd_law sc_law T (bd_law T B) (fun _ _ _ _ _ _ us hl => match us, hl with | [_], _ => rfl)
set_option Elab.async false
set_option linter.all false
set_option maxRecDepth 100000
set_option maxHeartbeats 0
open PySem L2
def tolds : List Told := [
  { adr := fun K => He.ga K "_law_cell", nm := "_law_cell", ql := "_law_cell", ar := defArgs st_law_cell, bd := defBody st_law_cell, sc := defScope st_law_cell, df := [] },
  { adr := fun K => He.ga K "_law_draws", nm := "_law_draws", ql := "_law_draws", ar := defArgs st_law_draws, bd := defBody st_law_draws, sc := defScope st_law_draws, df := [] },
  { adr := fun K => He.ga K "_law_trim", nm := "_law_trim", ql := "_law_trim", ar := defArgs st_law_trim, bd := defBody st_law_trim, sc := defScope st_law_trim, df := [] },
  { adr := fun K => He.ga K "_law_gcd", nm := "_law_gcd", ql := "_law_gcd", ar := defArgs st_law_gcd, bd := defBody st_law_gcd, sc := defScope st_law_gcd, df := [] },
  { adr := fun K => He.ga K "_law_rat", nm := "_law_rat", ql := "_law_rat", ar := defArgs st_law_rat, bd := defBody st_law_rat, sc := defScope st_law_rat, df := [] },
  { adr := fun K => He.ga K "_law_small", nm := "_law_small", ql := "_law_small", ar := defArgs st_law_small, bd := defBody st_law_small, sc := defScope st_law_small, df := [] },
  { adr := fun K => He.ga K "_law_add", nm := "_law_add", ql := "_law_add", ar := defArgs st_law_add, bd := defBody st_law_add, sc := defScope st_law_add, df := [] },
  { adr := fun K => He.ga K "_law_mul", nm := "_law_mul", ql := "_law_mul", ar := defArgs st_law_mul, bd := defBody st_law_mul, sc := defScope st_law_mul, df := [] },
  { adr := fun K => He.ga K "_law_pmul", nm := "_law_pmul", ql := "_law_pmul", ar := defArgs st_law_pmul, bd := defBody st_law_pmul, sc := defScope st_law_pmul, df := [] },
  { adr := fun K => He.ga K "_law_poly", nm := "_law_poly", ql := "_law_poly", ar := defArgs st_law_poly, bd := defBody st_law_poly, sc := defScope st_law_poly, df := [] },
  { adr := fun K => He.ga K "_law_padd", nm := "_law_padd", ql := "_law_padd", ar := defArgs st_law_padd, bd := defBody st_law_padd, sc := defScope st_law_padd, df := [] },
  { adr := fun K => He.ma K (He.ga K "Poly") "is_zero", nm := "is_zero", ql := "Poly.is_zero", ar := defArgs st_Poly_is_zero, bd := defBody st_Poly_is_zero, sc := defScope st_Poly_is_zero, df := [] },
  { adr := fun K => He.ma K (He.ga K "Ratio") "__init__", nm := "__init__", ql := "Ratio.__init__", ar := defArgs st_Ratio_init, bd := defBody st_Ratio_init, sc := defScope st_Ratio_init, df := [(.int 1)] },
  { adr := fun K => He.ma K (He.ga K "Ratio") "inverse", nm := "inverse", ql := "Ratio.inverse", ar := defArgs st_Ratio_inverse, bd := defBody st_Ratio_inverse, sc := defScope st_Ratio_inverse, df := [] },
  { adr := fun K => He.ma K (He.ga K "Poly") "last", nm := "last", ql := "Poly.last", ar := defArgs st_Poly_last, bd := defBody st_Poly_last, sc := defScope st_Poly_last, df := [] },
  { adr := fun K => He.ma K (He.ga K "Ratio") "__mul__", nm := "__mul__", ql := "Ratio.__mul__", ar := defArgs st_Ratio_mul, bd := defBody st_Ratio_mul, sc := defScope st_Ratio_mul, df := [] },
  { adr := fun K => He.ma K (He.ga K "Ratio") "__sub__", nm := "__sub__", ql := "Ratio.__sub__", ar := defArgs st_Ratio_sub, bd := defBody st_Ratio_sub, sc := defScope st_Ratio_sub, df := [] },
  { adr := fun K => He.ga K "_trimmed", nm := "_trimmed", ql := "_trimmed", ar := defArgs st_trimmed, bd := defBody st_trimmed, sc := defScope st_trimmed, df := [] },
  { adr := fun K => He.ma K (He.ga K "Poly") "__init__", nm := "__init__", ql := "Poly.__init__", ar := defArgs st_Poly_init, bd := defBody st_Poly_init, sc := defScope st_Poly_init, df := [] },
  { adr := fun K => He.ma K (He.ga K "Poly") "divided", nm := "divided", ql := "Poly.divided", ar := defArgs st_Poly_divided, bd := defBody st_Poly_divided, sc := defScope st_Poly_divided, df := [] },
  { adr := fun K => He.ma K (He.ga K "Poly") "divides", nm := "divides", ql := "Poly.divides", ar := defArgs st_Poly_divides, bd := defBody st_Poly_divides, sc := defScope st_Poly_divides, df := [] },
  { adr := fun K => He.ma K (He.ga K "Poly") "__floordiv__", nm := "__floordiv__", ql := "Poly.__floordiv__", ar := defArgs st_Poly_floordiv, bd := defBody st_Poly_floordiv, sc := defScope st_Poly_floordiv, df := [] },
  { adr := fun K => He.ma K (He.ga K "Ratio") "__add__", nm := "__add__", ql := "Ratio.__add__", ar := defArgs st_Ratio_add, bd := defBody st_Ratio_add, sc := defScope st_Ratio_add, df := [] },
  { adr := fun K => He.ma K (He.ga K "Poly") "__add__", nm := "__add__", ql := "Poly.__add__", ar := defArgs st_Poly_add, bd := defBody st_Poly_add, sc := defScope st_Poly_add, df := [] },
  { adr := fun K => He.ma K (He.ga K "Ratio") "__neg__", nm := "__neg__", ql := "Ratio.__neg__", ar := defArgs st_Ratio_neg, bd := defBody st_Ratio_neg, sc := defScope st_Ratio_neg, df := [] },
  { adr := fun K => He.ma K (He.ga K "Poly") "__neg__", nm := "__neg__", ql := "Poly.__neg__", ar := defArgs st_Poly_neg, bd := defBody st_Poly_neg, sc := defScope st_Poly_neg, df := [] },
  { adr := fun K => He.ma K (He.ga K "Poly") "__sub__", nm := "__sub__", ql := "Poly.__sub__", ar := defArgs st_Poly_sub, bd := defBody st_Poly_sub, sc := defScope st_Poly_sub, df := [] },
  { adr := fun K => He.ma K (He.ga K "Poly") "__mul__", nm := "__mul__", ql := "Poly.__mul__", ar := defArgs st_Poly_mul, bd := defBody st_Poly_mul, sc := defScope st_Poly_mul, df := [] },
  { adr := fun K => He.ma K (He.ga K "Poly") "scaled", nm := "scaled", ql := "Poly.scaled", ar := defArgs st_Poly_scaled, bd := defBody st_Poly_scaled, sc := defScope st_Poly_scaled, df := [] },
  { adr := fun K => He.ga K "_first_cofactor", nm := "_first_cofactor", ql := "_first_cofactor", ar := defArgs st_first_cofactor, bd := defBody st_first_cofactor, sc := defScope st_first_cofactor, df := [] },
  { adr := fun K => He.ma K (He.ga K "Poly") "__mod__", nm := "__mod__", ql := "Poly.__mod__", ar := defArgs st_Poly_mod, bd := defBody st_Poly_mod, sc := defScope st_Poly_mod, df := [] },
  { adr := fun K => He.ga K "combine_to", nm := "combine_to", ql := "combine_to", ar := defArgs st_combine_to, bd := defBody st_combine_to, sc := defScope st_combine_to, df := [] },
  { adr := fun K => He.ga K "_law_make", nm := "_law_make", ql := "_law_make", ar := defArgs st_law_make, bd := defBody st_law_make, sc := defScope st_law_make, df := [] },
  { adr := fun K => He.ga K "_law_is_integer", nm := "_law_is_integer", ql := "_law_is_integer", ar := defArgs st_law_is_integer, bd := defBody st_law_is_integer, sc := defScope st_law_is_integer, df := [] },
  { adr := fun K => He.ga K "_law_pair", nm := "_law_pair", ql := "_law_pair", ar := defArgs st_law_pair, bd := defBody st_law_pair, sc := defScope st_law_pair, df := [] },
  { adr := fun K => He.ga K "_law_row", nm := "_law_row", ql := "_law_row", ar := defArgs st_law_row, bd := defBody st_law_row, sc := defScope st_law_row, df := [] },
  { adr := fun K => He.ma K (He.ga K "Poly") "monic", nm := "monic", ql := "Poly.monic", ar := defArgs st_Poly_monic, bd := defBody st_Poly_monic, sc := defScope st_Poly_monic, df := [] },
  { adr := fun K => He.ma K (He.ga K "Poly") "degree", nm := "degree", ql := "Poly.degree", ar := defArgs st_Poly_degree, bd := defBody st_Poly_degree, sc := defScope st_Poly_degree, df := [] },
  { adr := fun K => He.ma K (He.ga K "Poly") "primitive", nm := "primitive", ql := "Poly.primitive", ar := defArgs st_Poly_primitive, bd := defBody st_Poly_primitive, sc := defScope st_Poly_primitive, df := [] },
  { adr := fun K => He.ga K "_primitive_row", nm := "_primitive_row", ql := "_primitive_row", ar := defArgs st_primitive_row, bd := defBody st_primitive_row, sc := defScope st_primitive_row, df := [] },
  { adr := fun K => He.ga K "_integer_rest", nm := "_integer_rest", ql := "_integer_rest", ar := defArgs st_integer_rest, bd := defBody st_integer_rest, sc := defScope st_integer_rest, df := [] },
  { adr := fun K => He.ga K "common_divisor", nm := "common_divisor", ql := "common_divisor", ar := defArgs st_common_divisor, bd := defBody st_common_divisor, sc := defScope st_common_divisor, df := [] },
  { adr := fun K => He.ga K "law", nm := "law", ql := "law", ar := defArgs st_law, bd := defBody st_law, sc := defScope st_law, df := [] }]
def cfacts : List (PySem.W.Frag → Bool) := [
  fun K => (He.Fa.free "abs").ok K,
  fun K => (He.Fa.free "bool").ok K,
  fun K => (He.Fa.free "enumerate").ok K,
  fun K => (He.Fa.free "int").ok K,
  fun K => (He.Fa.free "isinstance").ok K,
  fun K => (He.Fa.free "len").ok K,
  fun K => (He.Fa.free "list").ok K,
  fun K => (He.Fa.free "max").ok K,
  fun K => (He.Fa.free "range").ok K,
  fun K => (He.Fa.free "tuple").ok K,
  fun K => (He.Fa.free "zip").ok K,
  fun K => He.eqO (PySem.W.nsIn K mainGlobals "gcd") (some (some (.builtin "math.gcd"))),
  fun K => He.eqO (PySem.W.nsIn K mainGlobals "lcm") (some (some (.builtin "math.lcm"))),
  clsC "Ratio",
  clsC "Poly",
  fun K => (He.Fa.noat "Poly" "row").ok K,
  fun K => (He.Fa.noat "Ratio" "d").ok K,
  fun K => (He.Fa.noat "Ratio" "n").ok K,
  gloC "_law_cell",
  gloC "_law_draws",
  gloC "_law_trim",
  gloC "_law_gcd",
  gloC "_law_rat",
  gloC "_law_small",
  gloC "_law_add",
  gloC "_law_mul",
  gloC "_law_pmul",
  gloC "_law_poly",
  gloC "_law_padd",
  fun K => (He.Fa.meth "Poly" "is_zero").ok K,
  fun K => (He.Fa.mkr "Ratio").ok K,
  fun K => (He.Fa.meth "Ratio" "inverse").ok K,
  fun K => (He.Fa.meth "Poly" "last").ok K,
  fun K => (He.Fa.meth "Ratio" "__mul__").ok K,
  fun K => (He.Fa.meth "Ratio" "__sub__").ok K,
  gloC "_trimmed",
  fun K => (He.Fa.mkr "Poly").ok K,
  fun K => (He.Fa.meth "Poly" "divided").ok K,
  fun K => (He.Fa.meth "Poly" "divides").ok K,
  fun K => (He.Fa.meth "Poly" "__floordiv__").ok K,
  fun K => (He.Fa.meth "Ratio" "__add__").ok K,
  fun K => (He.Fa.meth "Poly" "__add__").ok K,
  fun K => (He.Fa.meth "Ratio" "__neg__").ok K,
  fun K => (He.Fa.meth "Poly" "__neg__").ok K,
  fun K => (He.Fa.meth "Poly" "__sub__").ok K,
  fun K => (He.Fa.meth "Poly" "__mul__").ok K,
  fun K => (He.Fa.meth "Poly" "scaled").ok K,
  gloC "_first_cofactor",
  fun K => (He.Fa.meth "Poly" "__mod__").ok K,
  gloC "combine_to",
  gloC "_law_make",
  gloC "_law_is_integer",
  gloC "_law_pair",
  gloC "_law_row",
  fun K => (He.Fa.meth "Poly" "monic").ok K,
  fun K => (He.Fa.meth "Poly" "degree").ok K,
  fun K => (He.Fa.meth "Poly" "primitive").ok K,
  gloC "_primitive_row",
  gloC "_integer_rest",
  gloC "common_divisor",
  excC "ZeroDivisor",
  isC (fun K => .ref (He.ga K "Poly")) nmOf ⟨false, false, false, false, false, false, [(0, false), (1, true)]⟩,
  isC (fun K => .ref (He.ga K "Ratio")) nmOf ⟨false, false, false, false, false, false, [(0, true), (1, false)]⟩,
  isC (fun K => .type "bool") nmOf ⟨false, true, false, false, false, false, [(0, false), (1, false)]⟩,
  isC (fun K => .type "int") nmOf ⟨false, true, true, false, false, false, [(0, false), (1, false)]⟩,
  isC (fun K => .type "tuple") nmOf ⟨false, false, false, false, true, false, [(0, false), (1, false)]⟩,
  fun K => (He.Fa.glo "law").ok K]
theorem base_of {Γ : Gam} {h : Heap} (N : Named Γ nmOf h) (hf : Γ.fld = fldOf) (c : Seen cfacts tolds Γ.K) : Base Γ := {
  n_abs := N.free (c.of 0 rfl)
  n_bool := N.free (c.of 1 rfl)
  n_enumerate := N.free (c.of 2 rfl)
  n_int := N.free (c.of 3 rfl)
  n_isinstance := N.free (c.of 4 rfl)
  n_len := N.free (c.of 5 rfl)
  n_list := N.free (c.of 6 rfl)
  n_max := N.free (c.of 7 rfl)
  n_range := N.free (c.of 8 rfl)
  n_tuple := N.free (c.of 9 rfl)
  n_zip := N.free (c.of 10 rfl)
  gcd := PySem.W.mg_of N.KX N.ns (He.eqO_ok (c.of 11 rfl))
  lcm := PySem.W.mg_of N.KX N.ns (He.eqO_ok (c.of 12 rfl))
  k_Ratio := N.cls_ rfl (c.of 13 rfl)
  fl_Ratio := by rw [hf] <;> rfl
  k_Poly := N.cls_ rfl (c.of 14 rfl)
  fl_Poly := by rw [hf] <;> rfl
  na_Poly_row := N.noat rfl (c.of 15 rfl)
  na_Ratio_d := N.noat rfl (c.of 16 rfl)
  na_Ratio_n := N.noat rfl (c.of 17 rfl)
  fd_law_cell := c.fun_ 0 rfl
  g_law_cell := N.glo (c.of 18 rfl)
  fd_law_draws := c.fun_ 1 rfl
  g_law_draws := N.glo (c.of 19 rfl)
  fd_law_trim := c.fun_ 2 rfl
  g_law_trim := N.glo (c.of 20 rfl)
  fd_law_gcd := c.fun_ 3 rfl
  g_law_gcd := N.glo (c.of 21 rfl)
  fd_law_rat := c.fun_ 4 rfl
  g_law_rat := N.glo (c.of 22 rfl)
  fd_law_small := c.fun_ 5 rfl
  g_law_small := N.glo (c.of 23 rfl)
  fd_law_add := c.fun_ 6 rfl
  g_law_add := N.glo (c.of 24 rfl)
  fd_law_mul := c.fun_ 7 rfl
  g_law_mul := N.glo (c.of 25 rfl)
  fd_law_pmul := c.fun_ 8 rfl
  g_law_pmul := N.glo (c.of 26 rfl)
  fd_law_poly := c.fun_ 9 rfl
  g_law_poly := N.glo (c.of 27 rfl)
  fd_law_padd := c.fun_ 10 rfl
  g_law_padd := N.glo (c.of 28 rfl)
  fd_Poly_is_zero := c.fun_ 11 rfl
  mt_Poly_is_zero := N.meth rfl (c.of 29 rfl)
  fd_Ratio_init := c.fun_ 12 rfl
  mk_Ratio := N.mkr rfl (c.of 30 rfl)
  fd_Ratio_inverse := c.fun_ 13 rfl
  mt_Ratio_inverse := N.meth rfl (c.of 31 rfl)
  fd_Poly_last := c.fun_ 14 rfl
  mt_Poly_last := N.meth rfl (c.of 32 rfl)
  fd_Ratio_mul := c.fun_ 15 rfl
  mt_Ratio_mul := N.meth rfl (c.of 33 rfl)
  fd_Ratio_sub := c.fun_ 16 rfl
  mt_Ratio_sub := N.meth rfl (c.of 34 rfl)
  fd_trimmed := c.fun_ 17 rfl
  g_trimmed := N.glo (c.of 35 rfl)
  fd_Poly_init := c.fun_ 18 rfl
  mk_Poly := N.mkr rfl (c.of 36 rfl)
  fd_Poly_divided := c.fun_ 19 rfl
  mt_Poly_divided := N.meth rfl (c.of 37 rfl)
  fd_Poly_divides := c.fun_ 20 rfl
  mt_Poly_divides := N.meth rfl (c.of 38 rfl)
  fd_Poly_floordiv := c.fun_ 21 rfl
  mt_Poly_floordiv := N.meth rfl (c.of 39 rfl)
  fd_Ratio_add := c.fun_ 22 rfl
  mt_Ratio_add := N.meth rfl (c.of 40 rfl)
  fd_Poly_add := c.fun_ 23 rfl
  mt_Poly_add := N.meth rfl (c.of 41 rfl)
  fd_Ratio_neg := c.fun_ 24 rfl
  mt_Ratio_neg := N.meth rfl (c.of 42 rfl)
  fd_Poly_neg := c.fun_ 25 rfl
  mt_Poly_neg := N.meth rfl (c.of 43 rfl)
  fd_Poly_sub := c.fun_ 26 rfl
  mt_Poly_sub := N.meth rfl (c.of 44 rfl)
  fd_Poly_mul := c.fun_ 27 rfl
  mt_Poly_mul := N.meth rfl (c.of 45 rfl)
  fd_Poly_scaled := c.fun_ 28 rfl
  mt_Poly_scaled := N.meth rfl (c.of 46 rfl)
  fd_first_cofactor := c.fun_ 29 rfl
  g_first_cofactor := N.glo (c.of 47 rfl)
  fd_Poly_mod := c.fun_ 30 rfl
  mt_Poly_mod := N.meth rfl (c.of 48 rfl)
  fd_combine_to := c.fun_ 31 rfl
  g_combine_to := N.glo (c.of 49 rfl)
  fd_law_make := c.fun_ 32 rfl
  g_law_make := N.glo (c.of 50 rfl)
  fd_law_is_integer := c.fun_ 33 rfl
  g_law_is_integer := N.glo (c.of 51 rfl)
  fd_law_pair := c.fun_ 34 rfl
  g_law_pair := N.glo (c.of 52 rfl)
  fd_law_row := c.fun_ 35 rfl
  g_law_row := N.glo (c.of 53 rfl)
  fd_Poly_monic := c.fun_ 36 rfl
  mt_Poly_monic := N.meth rfl (c.of 54 rfl)
  fd_Poly_degree := c.fun_ 37 rfl
  mt_Poly_degree := N.meth rfl (c.of 55 rfl)
  fd_Poly_primitive := c.fun_ 38 rfl
  mt_Poly_primitive := N.meth rfl (c.of 56 rfl)
  fd_primitive_row := c.fun_ 39 rfl
  g_primitive_row := N.glo (c.of 57 rfl)
  fd_integer_rest := c.fun_ 40 rfl
  g_integer_rest := N.glo (c.of 58 rfl)
  fd_common_divisor := c.fun_ 41 rfl
  g_common_divisor := N.glo (c.of 59 rfl)
  fd_law := c.fun_ 42 rfl
  x_ZeroDivisor := N.exc rfl (c.of 60 rfl)
  isi_Poly := by rw [N.cl]; exact N.isi (c.of 61 rfl) (fun p hp => by
    simp only [List.mem_cons, List.not_mem_nil, or_false] at hp
    rcases hp with rfl | rfl
    · exact (N.cls_ (x := "Ratio") rfl (c.of 13 rfl)).ins
    · exact (N.cls_ (x := "Poly") rfl (c.of 14 rfl)).ins)
  isi_Ratio := by rw [N.cl]; exact N.isi (c.of 62 rfl) (fun p hp => by
    simp only [List.mem_cons, List.not_mem_nil, or_false] at hp
    rcases hp with rfl | rfl
    · exact (N.cls_ (x := "Ratio") rfl (c.of 13 rfl)).ins
    · exact (N.cls_ (x := "Poly") rfl (c.of 14 rfl)).ins)
  isi_bool := N.isi (c.of 63 rfl) (fun p hp => by
    simp only [List.mem_cons, List.not_mem_nil, or_false] at hp
    rcases hp with rfl | rfl
    · exact (N.cls_ (x := "Ratio") rfl (c.of 13 rfl)).ins
    · exact (N.cls_ (x := "Poly") rfl (c.of 14 rfl)).ins)
  isi_int := N.isi (c.of 64 rfl) (fun p hp => by
    simp only [List.mem_cons, List.not_mem_nil, or_false] at hp
    rcases hp with rfl | rfl
    · exact (N.cls_ (x := "Ratio") rfl (c.of 13 rfl)).ins
    · exact (N.cls_ (x := "Poly") rfl (c.of 14 rfl)).ins)
  isi_tuple := N.isi (c.of 65 rfl) (fun p hp => by
    simp only [List.mem_cons, List.not_mem_nil, or_false] at hp
    rcases hp with rfl | rfl
    · exact (N.cls_ (x := "Ratio") rfl (c.of 13 rfl)).ins
    · exact (N.cls_ (x := "Poly") rfl (c.of 14 rfl)).ins)
  }
abbrev RowO : PySem.W.OpenRow := PySem.W.OpenLaw.row PySem.Challenge.rw_indicial_k13_linear_combinations
abbrev hkS : PySem.W.Hook := hookS 5 cfacts tolds
def obS (s : PySem.W.SharedT) : Sight := sightG 5 cfacts tolds (HandSHeadRun.getT s)
theorem obS_eq (s : PySem.W.SharedT) : obS s = hkS.obs s.abs := sightG_eq (HandSHeadRun.getT_eq s)
theorem run_top (w : World) : HandSHeadRun.RunEqI RowO (PySem.W.view RowO.prog [0, 35]) hkS obS 4000 ["_wall", "Fault", "ZeroDivisor", "PIECE", "written_integer", "Ratio", "_trimmed", "Poly", "_primitive_row", "_integer_rest", "common_divisor", "_first_cofactor", "combine_to", "_law_cell", "_law_draws", "_law_gcd", "_law_rat", "_law_add", "_law_mul", "_law_is_integer", "_law_pair", "_law_small", "_law_trim", "_law_padd", "_law_pmul", "_law_value", "_law_poly", "_law_row", "_law_make"] w := by
  unfold HandSHeadRun.RunEqI
  kernel_rfl
theorem law_kept (pure_ : ∀ ns : List Int, ns.length ≤ 63 → (∀ z ∈ ns, Builtin.Int.intBits z ≤ 1048576) → f_law [scr ns] = .ok (.bl true)) : PySem.Challenge.rw_indicial_k13_linear_combinations.Holds := by
  w_on; o_law
  refine HandSHeadRun.head_imp (r := RowO) (q := PySem.W.view RowO.prog [0, 35]) (H := hkS) (ob := obS) (M := 4000) (loose := ["_wall", "Fault", "ZeroDivisor", "PIECE", "written_integer", "Ratio", "_trimmed", "Poly", "_primitive_row", "_integer_rest", "common_divisor", "_first_cofactor", "combine_to", "_law_cell", "_law_draws", "_law_gcd", "_law_rat", "_law_add", "_law_mul", "_law_is_integer", "_law_pair", "_law_small", "_law_trim", "_law_padd", "_law_pmul", "_law_value", "_law_poly", "_law_row", "_law_make"]) (d := HandSHeadRun.topDef RowO.prog 35) (kwd := []) obS_eq
    run_top (by kernel_rfl) (by kernel_rfl) (by kernel_rfl) (by rfl) (by first | assumption | decide +kernel) (by decide +kernel) ⟨rfl, rfl, rfl, rfl, rfl, by decide +kernel⟩ ?hw ?hc
  case hw => w_witness2
  case hc =>
    have en : (HandSHeadRun.topDef RowO.prog 35).name = ("law" : Str) := by kernel_rfl
    refine law_end (l := PySem.Challenge.rw_indicial_k13_linear_combinations) (n := 63) (k := 49) (x := "_law_script") rfl (by decide) (by kernel_rfl) ⟨rfl, by decide, by decide⟩ (by decide +kernel) (fun K c => ?_) fun K h mg X G c => ?_
    · obtain ⟨fd, F⟩ := c.fun_ 42 rfl
      refine ⟨fd, fun s u => FunD.bindsA (ps := ["_law_script"]) F (fun _ _ _ _ _ _ us hl => match us, hl with | [_], _ => rfl) s [u] rfl, fun w h base mg X G NS => ?_⟩
      have N : Named (gam PySem.Challenge.rw_indicial_k13_linear_combinations.prog w K mg base) nmOf h := ⟨X, G, fun _ => rfl⟩
      rw [en]
      exact FnOk.less (fx_d (Γ := gam PySem.Challenge.rw_indicial_k13_linear_combinations.prog w K mg base) F sc_law ⟨rfl, NS⟩ rfl (by decide) (bd_law ⟨rfl, NS⟩ (base_of N rfl c))) (spLaw_of (Γ := gam PySem.Challenge.rw_indicial_k13_linear_combinations.prog w K mg base) pure_)
    · rw [en]
      exact He.glo_ok X G (c.of 66 rfl)
set_option Elab.async false
set_option linter.all false
set_option maxRecDepth 100000
set_option maxHeartbeats 1000000
open PySem L2
/-! ### the class Ratio -/
theorem num_0 : Rat.num 0 = 0 := rfl
abbrev ofQ (q : Rat) : D := .obj 0 [.int q.num, .int (q.den : Int)]
abbrev tq (q : Rat) : D := .tup [.int q.num, .int (q.den : Int)]
theorem gcd_split (n d : Int) (h : d ≠ 0) : (0 < d → n.fdiv ((Nat.gcd n.natAbs d.natAbs : Nat) : Int) = (Rat.divInt n d).num ∧ d.fdiv ((Nat.gcd n.natAbs d.natAbs : Nat) : Int) = ((Rat.divInt n d).den : Int)) ∧
    (d < 0 → n.fdiv (-((Nat.gcd n.natAbs d.natAbs : Nat) : Int)) = (Rat.divInt n d).num ∧ d.fdiv (-((Nat.gcd n.natAbs d.natAbs : Nat) : Int)) = ((Rat.divInt n d).den : Int)) ∧ ((Nat.gcd n.natAbs d.natAbs : Nat) : Int) ≠ 0 := by
  have g0 : 0 < Nat.gcd n.natAbs d.natAbs := Nat.gcd_pos_of_pos_right _ (Int.natAbs_pos.mpr h)
  have d1 : ((Nat.gcd n.natAbs d.natAbs : Nat) : Int) ∣ n := Int.ofNat_dvd_left.mpr (Nat.gcd_dvd_left _ _)
  have d2 : ((Nat.gcd n.natAbs d.natAbs : Nat) : Int) ∣ d := Int.ofNat_dvd_left.mpr (Nat.gcd_dvd_right _ _)
  have e : d.gcd n = Nat.gcd n.natAbs d.natAbs := Nat.gcd_comm _ _
  rw [Rat.num_divInt, Rat.den_divInt, if_neg h, e]
  generalize hg : Nat.gcd n.natAbs d.natAbs = g at *
  refine ⟨fun p => ⟨?_, ?_⟩, fun p => ⟨?_, ?_⟩, by omega⟩
  · rw [Int.fdiv_eq_ediv_of_dvd d1, Int.sign_eq_one_of_pos p, Int.one_mul]
  · rw [Int.fdiv_eq_ediv_of_dvd d2, Int.natCast_ediv, Int.natAbs_of_nonneg (Int.le_of_lt p)]
  · rw [Int.fdiv_eq_ediv_of_dvd (Int.neg_dvd.mpr d1), Int.sign_eq_neg_one_of_neg p, Int.ediv_neg, Int.neg_one_mul, Int.neg_ediv_of_dvd d1]
  · rw [Int.fdiv_eq_ediv_of_dvd (Int.neg_dvd.mpr d2), Int.ediv_neg, Int.natCast_ediv, ← Int.neg_ediv_of_dvd d2]
    congr 1
    omega
theorem init2 (n d : Int) : f_Ratio_init_2 [.int n, .int d] = if d = 0 then .exc ⟨21, []⟩ else .ok [.int (Rat.divInt n d).num, .int ((Rat.divInt n d).den : Int)] := by
  unfold f_Ratio_init_2 b_Ratio_init
  by_cases h : d = 0
  · (wp_walk using h)
  · obtain ⟨h1, h2, h3⟩ := gcd_split n d h
    rcases Int.lt_or_lt_of_ne h with p | p
    · obtain ⟨e1, e2⟩ := h2 p
      have np : ¬ 0 < d := by omega
      have g : ¬ -((Nat.gcd n.natAbs d.natAbs : Nat) : Int) = 0 := by omega
      (wp_walk using h, np, g, e1, e2)
    · obtain ⟨e1, e2⟩ := h1 p
      (wp_walk using h, p, h3, e1, e2)
theorem init2_ok (n d : Int) (h : d ≠ 0) : f_Ratio_init_2 [.int n, .int d] = .ok [.int (Rat.divInt n d).num, .int ((Rat.divInt n d).den : Int)] := by rw [init2, if_neg h]
theorem init1 (n : Int) : f_Ratio_init_1 [.int n] = .ok [.int n, .int 1] := by
  have e : f_Ratio_init_1 [.int n] = f_Ratio_init_2 [.int n, .int 1] := rfl
  rw [e, init2_ok n 1 (by decide)]
  have z : Rat.divInt n 1 = (n : Rat) := by simpa using Rat.num_divInt_den (n : Rat)
  rw [z]
  rfl
section
variable {a b : Rat} {n m : Nat}
theorem mulok_q {x y : Int} {n m : Nat} (hx : x.natAbs < 2 ^ n) (hy : y.natAbs < 2 ^ m) (h : n + m ≤ 100000000) : mulI (.int x) (.int y) = .ok (.int (x * y)) := by
  unfold mulI intD
  dsimp only
  rw [if_pos (mulok hx hy h)]
theorem mul_small {x y : Int} (hy : y.natAbs < 2 ^ 64) : mulI (.int x) (.int y) = .ok (.int (x * y)) := by
  unfold mulI intD
  dsimp only
  rw [if_pos (mulok1 hy)]
theorem Ratio_add_q (ha : Qb n a) (hb : Qb m b) (h : n + m ≤ 100000000) : f_Ratio_add [ofQ a, ofQ b] = .ok (ofQ (a + b)) := by
  unfold f_Ratio_add b_Ratio_add ofQ
  (wp_walk using mulok_q ha.num hb.den' h, mulok_q hb.num ha.den' (by omega), mulok_q ha.den' hb.den' h, init2_ok _ _ (Int.mul_ne_zero (den_ne a) (den_ne b)), add_q)
theorem Ratio_sub_q (ha : Qb n a) (hb : Qb m b) (h : n + m ≤ 100000000) : f_Ratio_sub [ofQ a, ofQ b] = .ok (ofQ (a - b)) := by
  unfold f_Ratio_sub b_Ratio_sub ofQ
  (wp_walk using mulok_q ha.num hb.den' h, mulok_q hb.num ha.den' (by omega), mulok_q ha.den' hb.den' h, init2_ok _ _ (Int.mul_ne_zero (den_ne a) (den_ne b)), sub_q)
theorem Ratio_mul_q (ha : Qb n a) (hb : Qb m b) (h : n + m ≤ 100000000) : f_Ratio_mul [ofQ a, ofQ b] = .ok (ofQ (a * b)) := by
  unfold f_Ratio_mul b_Ratio_mul ofQ
  (wp_walk using mulok_q ha.num hb.num h, mulok_q ha.den' hb.den' h, init2_ok _ _ (Int.mul_ne_zero (den_ne a) (den_ne b)), mul_q)
theorem Ratio_neg_q : f_Ratio_neg [ofQ a] = .ok (ofQ (-a)) := by
  unfold f_Ratio_neg b_Ratio_neg ofQ
  (wp_walk using init2_ok _ _ (den_ne a), neg_q)
theorem num_ne {a : Rat} (h : a ≠ 0) : a.num ≠ 0 := fun z => h (by rw [← Rat.num_divInt_den a, z, Rat.zero_divInt])
theorem Ratio_inverse_q (h : a ≠ 0) : f_Ratio_inverse [ofQ a] = .ok (ofQ a⁻¹) := by
  unfold f_Ratio_inverse b_Ratio_inverse ofQ
  (wp_walk using init2_ok _ _ (num_ne h), inv_q)
theorem Ratio_inverse_0 : f_Ratio_inverse [ofQ 0] = .exc ⟨21, []⟩ := by
  unfold f_Ratio_inverse b_Ratio_inverse ofQ
  (wp_walk using init2, num_0)
end
open PySem L2
/-! ### the law's own helpers -/
theorem law_gcd_q (a b : Int) : f_law_gcd [.int a, .int b] = .ok (.int ((Nat.gcd a.natAbs b.natAbs : Nat) : Int)) := by
  have ab : ∀ x : Int, (if x < 0 then -x else x) = (x.natAbs : Int) := fun x => by split <;> omega
  obtain ⟨ρ', h1, ⟨x, y, z, e, g⟩, h3⟩ := while_inv (c := T.tst (E.op2 neS (E.var 3) (E.c (.int 0)))) (b := S.seq (S.set 4 (E.op2 modI (E.op1 intC (E.var 2)) (E.var 3))) (S.seq (S.set 2 (E.var 3)) (S.set 3 (E.var 4))))
    (fun ρ => ∃ (x y : Nat) (z : Cell), ρ = [.val (.int a), .val (.int b), .val (.int x), .val (.int y), z] ∧ Nat.gcd x y = Nat.gcd a.natAbs b.natAbs) (fun ρ => fuelI 3 ρ - 1) (fun ρ ⟨x, y, z, e, g⟩ => by
      subst e
      by_cases h : (y : Int) = 0
      · left
        (wp_walk using h)
      · right
        have y0 : 0 < y := by omega
        refine ⟨by (wp_walk using h), _, by (wp_walk using h); rfl, ⟨y, x % y, .val (.int ((x : Int).fmod y)), by rw [Int.fmod_eq_emod_of_nonneg _ (by omega)] <;> rfl, by rw [← g, Nat.gcd_comm x y, Nat.gcd_rec y x, Nat.gcd_comm]⟩, ?_⟩
        have := Nat.mod_lt x y0
        have e2 : ((x : Int).fmod y).natAbs = x % y := by
          rw [Int.fmod_eq_emod_of_nonneg _ (by omega)]
          omega
        simp only [fuelI, List.getElem?_cons_succ, List.getElem?_cons_zero]
        omega) (b.natAbs + 1) [.val (.int a), .val (.int b), .val (.int (a.natAbs : Int)), .val (.int (b.natAbs : Int)), .no] ⟨_, _, _, rfl, rfl⟩ (by simp only [fuelI, List.getElem?_cons_succ, List.getElem?_cons_zero]; omega)
  subst e
  have y0 : (y : Int) = 0 := by
    revert h3
    wp_walk
    simp
  have yz : y = 0 := by omega
  subst yz
  unfold f_law_gcd b_law_gcd
  have h1' : S.whil (fuelI 3) (T.tst (E.op2 neS (E.var 3) (E.c (.int 0)))) (S.seq (S.set 4 (E.op2 modI (E.op1 intC (E.var 2)) (E.var 3))) (S.seq (S.set 2 (E.var 3)) (S.set 3 (E.var 4)))) [.val (.int a), .val (.int b), .val (.int (a.natAbs : Int)), .val (.int (b.natAbs : Int)), .no] = _ := h1
  (wp_walk using ab, h1')
  rw [Nat.gcd_zero_right] at g
  rw [g]
theorem law_rat_q (n d : Int) (h : d ≠ 0) : f_law_rat [.int n, .int d] = .ok (tq (Rat.divInt n d)) := by
  obtain ⟨h1, h2, h3⟩ := gcd_split n d h
  unfold f_law_rat b_law_rat tq
  rcases Int.lt_or_lt_of_ne h with p | p
  · obtain ⟨e1, e2⟩ := h2 p
    have g : ¬ -((Nat.gcd n.natAbs d.natAbs : Nat) : Int) = 0 := by omega
    (wp_walk using law_gcd_q, p, g, e1, e2)
  · obtain ⟨e1, e2⟩ := h1 p
    have np : ¬ d < 0 := by omega
    (wp_walk using law_gcd_q, np, h3, e1, e2)
section
variable {a b : Rat} {n m : Nat}
theorem law_add_q (ha : Qb n a) (hb : Qb m b) (h : n + m ≤ 100000000) : f_law_add [tq a, tq b] = .ok (tq (a + b)) := by
  show f_law_add [.tup [.int a.num, .int a.den], .tup [.int b.num, .int b.den]] = _
  unfold f_law_add b_law_add
  (wp_walk using mulok_q ha.num hb.den' h, mulok_q hb.num ha.den' (by omega), mulok_q ha.den' hb.den' h, law_rat_q _ _ (Int.mul_ne_zero (den_ne a) (den_ne b)), add_q)
theorem law_mul_q (ha : Qb n a) (hb : Qb m b) (h : n + m ≤ 100000000) : f_law_mul [tq a, tq b] = .ok (tq (a * b)) := by
  show f_law_mul [.tup [.int a.num, .int a.den], .tup [.int b.num, .int b.den]] = _
  unfold f_law_mul b_law_mul
  (wp_walk using mulok_q ha.num hb.num h, mulok_q ha.den' hb.den' h, law_rat_q _ _ (Int.mul_ne_zero (den_ne a) (den_ne b)), mul_q)
theorem law_is_integer_q (i : Int) : f_law_is_integer [.int i] = .ok (.bl true) := by
  unfold f_law_is_integer b_law_is_integer
  (wp_walk using isi_int, isi_bool, Tst.f)
theorem law_pair_q : f_law_pair [ofQ a] = .ok (tq a) := by
  show f_law_pair [.obj 0 [.int a.num, .int a.den]] = .ok (.tup [.int a.num, .int a.den])
  have h1 : ¬ (a.den : Int) < 1 := by have := a.den_nz; omega
  have h2 : Nat.gcd a.num.natAbs (a.den : Int).natAbs = 1 := a.reduced
  have h3 : isi_Ratio (.obj 0 [.int a.num, .int a.den]) = some true := rfl
  have h4 : ((1 : Nat) : Int) = 1 := rfl
  unfold f_law_pair b_law_pair
  (wp_walk using h3, law_is_integer_q, h1, law_gcd_q, h2, h4)
theorem law_cell_q (ns : List Int) (i : Int) (hi : 0 ≤ i) : f_law_cell [scr ns, .int i] = .ok (.int (ns.getD i.toNat 0)) := by
  unfold f_law_cell b_law_cell scr
  by_cases h : i < (ns.length : Int)
  · have e : atI (ns.map D.int) i = some (.int (ns.getD i.toNat 0)) := by
      rw [atI_pos _ hi, List.getElem?_map, List.getD_eq_getElem?_getD, List.getElem?_eq_getElem (show i.toNat < ns.length by omega)]
      rfl
    (wp_walk using List.length_map, h, e)
  · have e : ns.getD i.toNat 0 = 0 := by
      rw [List.getD_eq_getElem?_getD, List.getElem?_eq_none (show ns.length ≤ i.toNat by omega)]
      rfl
    (wp_walk using List.length_map, h, e)
end
theorem law_draws_q (ns : List Int) (i c b : Int) (hi : 0 ≤ i ∧ i < 1000) (hc : 0 ≤ c ∧ c < 1000) (hb : 0 < b ∧ b < 1099511627776) : ∃ xs : List Int, xs.length = c.toNat ∧ (∀ x ∈ xs, 0 ≤ x ∧ x < b) ∧ f_law_draws [scr ns, .int i, .int c, .int b] = .ok (xs.map D.int) := by
  have b0 : ¬ b = 0 := by omega
  have hr1 : -(2 ^ 62) ≤ c := by omega
  have hr2 : c < 2 ^ 62 := by omega
  have md : ∀ x : Int, 0 ≤ x.fmod b ∧ x.fmod b < b := fun x => ⟨Int.fmod_nonneg_of_pos x hb.1, Int.fmod_lt_of_pos x hb.1⟩
  have grow : ∀ (xs : List Int) (x : Int), (∀ x ∈ xs, 0 ≤ x ∧ x < b) → ∀ z ∈ xs ++ [x.fmod b], 0 ≤ z ∧ z < b := fun xs x h z hz => by
    rcases List.mem_append.mp hz with q | q
    · exact h z q
    · rw [List.mem_singleton.mp q]
      exact md x
  unfold f_law_draws b_law_draws
  generalize hz : ns.getD i.toNat 0 = z
  by_cases h : 1000000000000000000 ≤ z
  · (wp_walk using law_cell_q ns i hi.1, hz, h, hr1, hr2)
    generalize hB : S.forL _ _ _ _ = o
    obtain ⟨ρ', e, y, xs, c6, e2, l, w⟩ : ∃ ρ', o = .next ρ' ∧ ∃ (y : Int) (xs : List Int) (c6 : Cell), ρ' = [.val (scr ns), .val (.int i), .val (.int c), .val (.int b), .val (.int y), .own (xs.map D.int), c6, .no, .no] ∧ xs.length = c.toNat ∧ ∀ x ∈ xs, 0 ≤ x ∧ x < b := by
      rw [← hB]
      refine for_0 (fun j ρ => ∃ (y : Int) (xs : List Int) (c6 : Cell), ρ = [.val (scr ns), .val (.int i), .val (.int c), .val (.int b), .val (.int y), .own (xs.map D.int), c6, .no, .no] ∧ xs.length = j ∧ ∀ x ∈ xs, 0 ≤ x ∧ x < b) _ _ ⟨z, [], .no, rfl, rfl, fun x hx => nomatch hx⟩ fun j ρ hj ⟨y, xs, c6, e, l, w⟩ => ?_
      subst e
      have lx : (xs.map D.int).length < 16777216 := by rw [List.length_map, l]; omega
      refine ⟨_, by wp_walk; rfl, _, by (wp_walk using b0, lx); rfl, ?_⟩
      exact ⟨y.fdiv b, xs ++ [y.fmod b], .val (.int j), by rw [List.map_append] <;> rfl, by rw [List.length_append, l] <;> rfl, grow xs y w⟩
    subst e
    subst e2
    exact ⟨xs, l, w, by wp_walk⟩
  · have m1 : mulI (.int 3) (.int i) = .ok (.int (3 * i)) := mul_small (by omega)
    (wp_walk using law_cell_q ns i hi.1, hz, h, hr1, hr2, m1)
    generalize hB : S.forL _ _ _ _ = o
    generalize z.fmod 2147483647 + 3 * i + 1 = y0 at hB
    obtain ⟨ρ', e, y, xs, c6, c8, e2, l, w⟩ : ∃ ρ', o = .next ρ' ∧ ∃ (y : Int) (xs : List Int) (c6 c8 : Cell), ρ' = [.val (scr ns), .val (.int i), .val (.int c), .val (.int b), .val (.int z), .own (xs.map D.int), c6, .val (.int y), c8] ∧ xs.length = c.toNat ∧ ∀ x ∈ xs, 0 ≤ x ∧ x < b := by
      rw [← hB]
      refine for_0 (fun j ρ => ∃ (y : Int) (xs : List Int) (c6 c8 : Cell), ρ = [.val (scr ns), .val (.int i), .val (.int c), .val (.int b), .val (.int z), .own (xs.map D.int), c6, .val (.int y), c8] ∧ xs.length = j ∧ ∀ x ∈ xs, 0 ≤ x ∧ x < b) _ _ ⟨y0, [], .no, .no, rfl, rfl, fun x hx => nomatch hx⟩ fun j ρ hj ⟨y, xs, c6, c8, e, l, w⟩ => ?_
      subst e
      have lx : (xs.map D.int).length < 16777216 := by rw [List.length_map, l]; omega
      have m2 : ∀ y : Int, mulI (.int y) (.int 48271) = .ok (.int (y * 48271)) := fun y => mul_small (by decide)
      have m3 : ∀ y : Int, mulI (.int y) (.int 69621) = .ok (.int (y * 69621)) := fun y => mul_small (by decide)
      have m4 : mulI (.int 11) (.int (j : Int)) = .ok (.int (11 * j)) := mul_small (by omega)
      have m5 : mulI (.int 5) (.int (j : Int)) = .ok (.int (5 * j)) := mul_small (by omega)
      refine ⟨_, by wp_walk; rfl, _, by (wp_walk using b0, lx, m2, m3, m4, m5); rfl, ?_⟩
      exact ⟨_, xs ++ [Int.fmod _ b], _, _, by rw [List.map_append] <;> rfl, by rw [List.length_append, l] <;> rfl, grow xs _ w⟩
    subst e
    subst e2
    exact ⟨xs, l, w, by wp_walk⟩
-- the numbers of a script
structure Scr (ns : List Int) : Prop where
  len : ns.length ≤ 63
  bits : ∀ z ∈ ns, Builtin.Int.intBits z ≤ 1048576
theorem Scr.getD {ns : List Int} (S : Scr ns) (i : Nat) : (ns.getD i 0).natAbs < 2 ^ 1048576 := by
  rw [List.getD_eq_getElem?_getD]
  cases h : ns[i]? with
  | none => exact Nat.two_pow_pos _
  | some z => exact lt_of_bits (S.bits z (List.mem_of_getElem? h))
section
variable {a b : Rat} {n m : Nat}
-- the k-th power
def pw (a : Rat) (k : Int) : Rat := if k < 0 then (a ^ k.natAbs)⁻¹ else a ^ k.natAbs
theorem inv_pow (a : Rat) : ∀ k : Nat, a⁻¹ ^ k = (a ^ k)⁻¹
  | 0 => by rw [Rat.pow_zero, Rat.pow_zero]; grind
  | k + 1 => by
    rw [Rat.pow_succ, Rat.pow_succ, inv_pow a k]
    grind
theorem pow_ne {a : Rat} (h : a ≠ 0) : ∀ k : Nat, a ^ k ≠ 0
  | 0 => by rw [Rat.pow_zero]; decide
  | k + 1 => by
    rw [Rat.pow_succ]
    have := pow_ne h k
    grind
theorem init1_q (i : Int) : f_Ratio_init_1 [.int i] = .ok [.int i, .int 1] := init1 i
end
set_option Elab.async false
set_option linter.all false
set_option maxRecDepth 100000
set_option maxHeartbeats 1000000
open PySem L2
/-! ### linear equations -/
abbrev rL (r : List Rat) : D := .lst (r.map ofQ)
abbrev rT (r : List Rat) : D := .tup (r.map ofQ)
abbrev nD (i : Nat) : D := .int (i : Int)
theorem num_eq0 {q : Rat} : q.num = 0 ↔ q = 0 := ⟨fun h => Decidable.byContradiction fun z => num_ne z h, fun h => by rw [h]; rfl⟩
theorem rowL {T : Tab} {k : Nat} (h : k < T.length) : atI (T.map rL) (k : Int) = some (rL (rowAt T k)) := by rw [atI_map, rowAt_some h]; rfl
theorem itemQ {r : List Rat} {j : Nat} (h : j < r.length) : atI (r.map ofQ) (j : Int) = some (ofQ (r.getD j 0)) := by rw [atI_map, getD_some h]; rfl
-- the table when the rows below k are done
def part1 (c d k : Nat) (row : List Rat) (T2 : Tab) : Tab := T2.mapIdx fun m r => if m = d then r else if m < k then axpy (r.getD c 0) r row else r
theorem part1_length (c d k : Nat) (row : List Rat) (T2 : Tab) : (part1 c d k row T2).length = T2.length := by unfold part1; rw [List.length_mapIdx]
theorem part1_row {c d k m : Nat} {row : List Rat} {T2 : Tab} (hm : m < T2.length) : rowAt (part1 c d k row T2) m = if m = d then rowAt T2 m else if m < k then axpy ((rowAt T2 m).getD c 0) (rowAt T2 m) row else rowAt T2 m := by
  show (part1 c d k row T2).getD m [] = _
  unfold part1
  rw [List.getD_eq_getElem?_getD, List.getElem?_mapIdx, rowAt_some hm]
  rfl
theorem tab_ext {A B : Tab} (hl : A.length = B.length) (h : ∀ m, m < A.length → rowAt A m = rowAt B m) : A = B := by
  apply List.ext_getElem hl
  intro m h1 h2
  have := h m h1
  unfold rowAt at this
  rw [List.getD_eq_getElem?_getD, List.getD_eq_getElem?_getD, List.getElem?_eq_getElem h1, List.getElem?_eq_getElem h2] at this
  exact this
theorem rowAt_set {A : Tab} {i m : Nat} {r : List Rat} (hi : i < A.length) : rowAt (A.set i r) m = if i = m then r else rowAt A m := by
  unfold rowAt
  rw [List.getD_eq_getElem?_getD, List.getElem?_set]
  by_cases h : i = m
  · rw [if_pos h, if_pos h, if_pos hi]; rfl
  · rw [if_neg h, if_neg h, List.getD_eq_getElem?_getD]
theorem part1_next {c d k : Nat} {row : List Rat} {T2 : Tab} (hk : k < T2.length) (n : k ≠ d) : (part1 c d k row T2).set k (axpy ((rowAt T2 k).getD c 0) (rowAt T2 k) row) = part1 c d (k + 1) row T2 := by
  apply tab_ext (by rw [List.length_set, part1_length, part1_length])
  intro m hm
  rw [List.length_set, part1_length] at hm
  rw [rowAt_set (by rw [part1_length]; exact hk), part1_row hm, part1_row hm]
  by_cases e : k = m
  · subst e
    rw [if_pos rfl, if_neg n, if_pos (Nat.lt_succ_self k)]
  · rw [if_neg e]
    by_cases e2 : m = d
    · rw [if_pos e2, if_pos e2]
    · rw [if_neg e2, if_neg e2]
      by_cases e3 : m < k
      · rw [if_pos e3, if_pos (by omega)]
      · rw [if_neg e3, if_neg (by omega)]
theorem part1_same {c d k : Nat} {row : List Rat} {T2 : Tab} (h : k = d ∨ (rowAt T2 k).getD c 0 = 0) (hl : ∀ r ∈ T2, r.length = row.length) : part1 c d (k + 1) row T2 = part1 c d k row T2 := by
  apply tab_ext (by rw [part1_length, part1_length])
  intro m hm
  rw [part1_length] at hm
  rw [part1_row hm, part1_row hm]
  by_cases e2 : m = d
  · rw [if_pos e2, if_pos e2]
  · rw [if_neg e2, if_neg e2]
    by_cases e3 : m < k
    · rw [if_pos e3, if_pos (by omega)]
    · rw [if_neg e3]
      by_cases e4 : m = k
      · subst e4
        have z := h.resolve_left e2
        have e := hl _ (rowAt_mem hm)
        rw [if_pos (Nat.lt_succ_self m), z]
        apply row_ext (axpy_len e)
        intro j
        rw [axpy_getD e]
        grind
      · rw [if_neg (by omega)]
theorem elim_part {c d i : Nat} {T : Tab} : elimCol c d i T = part1 c d T.length (piv1 c d i T) ((T.set i (rowAt T d)).set d (piv1 c d i T)) := by
  unfold elimCol part1
  apply List.ext_getElem (by rw [List.length_mapIdx, List.length_mapIdx])
  intro m h1 h2
  rw [List.length_mapIdx, List.length_set, List.length_set] at h1
  rw [List.getElem_mapIdx, List.getElem_mapIdx, if_pos h1]
theorem part1_zero {c d : Nat} {row : List Rat} {T2 : Tab} : part1 c d 0 row T2 = T2 := by
  apply tab_ext (by rw [part1_length])
  intro m hm
  rw [part1_length] at hm
  rw [part1_row hm]
  split
  · rfl
  · rw [if_neg (Nat.not_lt_zero m)]
theorem filter_find {α : Type} (p : α → Bool) (xs : List α) : (xs.filter p)[0]? = xs.find? p := by
  rw [← List.head?_eq_getElem?, List.head?_filter]
theorem par_row {c : Nat} {Tk : Tab} {k : Nat} (hk : k < Tk.length) (hc : c < (rowAt Tk k).length) : atI ((rowAt Tk k).map ofQ) (c : Int) = some (ofQ (en Tk k c)) := itemQ hc
theorem fld0 (f : Env → Res D) (ρ : Env) (q : Rat) (h : f ρ = .ok (ofQ q)) : E.fld 0 0 f ρ = .ok (.int q.num) := by
  unfold E.fld
  rw [h]
  rfl
set_option Elab.async false
set_option linter.all false
set_option maxRecDepth 100000
set_option maxHeartbeats 1000000
open PySem L2
-- the sizes fit
theorem mul_q1 {n m : Nat} {a b : Rat} (ha : Qb n a) (hb : Qb m b) (h : n + m ≤ 100000000) : f_Ratio_mul [.obj 0 [.int a.num, .int a.den], .obj 0 [.int b.num, .int b.den]] = .ok (ofQ (a * b)) := Ratio_mul_q ha hb h
theorem sub_q1 {n m : Nat} {a b : Rat} (ha : Qb n a) (hb : Qb m b) (h : n + m ≤ 100000000) : f_Ratio_sub [.obj 0 [.int a.num, .int a.den], .obj 0 [.int b.num, .int b.den]] = .ok (ofQ (a - b)) := Ratio_sub_q ha hb h
theorem elim_inner {w n c d : Nat} {row : List Rat} {T2 : Tab} (ps : List D) (c5 c6 c8 c9 a10 a11 : Cell) (hw : Wid w T2) (hr : row.length = w) (hs : Siz n T2) (hn : 1 ≤ n) (hrow : ∀ x ∈ row, Qb (n + n) x) (hB : 5 * n ≤ 50000000) (hl : T2.length ≤ 1000) (hc : c < w) (hW : w ≤ 1000) (hd : d < T2.length) (ww : D) :
    ∃ ρ', S.forE (E.rng1 (E.len (Z.own 0))) (S.tgt 10)
  (S.seq (S.set 11 (E.ix (Z.seq (E.ix (Z.own 0) (E.var 10))) (E.var 3)))
  (S.ite (T.and (T.tst (E.op2 neS (E.var 10) (E.var 4))) (T.tst (E.op2 neS (E.fld 0 0 (E.var 11)) (E.c (.int 0)))))
  (S.setAt 0 (E.var 10) (E.lst (E.comp [12, 13] (Z.zipS (E.ix (Z.own 0) (E.var 10)) (E.var 7)) (S.gtup 2 (S.gcons (S.tgt 12) (S.gcons (S.tgt 13) S.gnil))) T.yes (E.ite (T.tst (E.op2 eqS (E.fld 0 0 (E.var 13)) (E.c (.int 0)))) (E.var 12) (E.own2 0 f_Ratio_sub (E.var 12) (E.own2 0 f_Ratio_mul (E.var 11) (E.var 13)))))))
  S.skip)) [.par (T2.map rL), .val ww, .own ps, .val (nD c), .val (nD d), c5, c6, .val (rL row), c8, c9, a10, a11, .no, .no] = .next ρ' ∧ ∃ c10 c11 : Cell, ρ' = [.par ((part1 c d T2.length row T2).map rL), .val ww, .own ps, .val (nD c), .val (nD d), c5, c6, .val (rL row), c8, c9, c10, c11, .no, .no] := by
  have e0 : E.rng1 (E.len (Z.own 0)) [.par (T2.map rL), .val ww, .own ps, .val (nD c), .val (nD d), c5, c6, .val (rL row), c8, c9, a10, a11, .no, .no] = .ok (rngD 0 T2.length) := rng1_n (by (wp_walk using List.length_map)) (by omega)
  refine forE_0 (fun k ρ => ∃ c10 c11 : Cell, ρ = [.par ((part1 c d k row T2).map rL), .val ww, .own ps, .val (nD c), .val (nD d), c5, c6, .val (rL row), c8, c9, c10, c11, .no, .no]) e0 ⟨a10, a11, by rw [part1_zero]⟩ fun k ρ hk ⟨c10, c11, e⟩ => ?_
  subst e
  have lp : (part1 c d k row T2).length = T2.length := part1_length _ _ _ _ _
  have rk : rowAt (part1 c d k row T2) k = rowAt T2 k := by
    rw [part1_row hk, if_neg (Nat.lt_irrefl k)]
    split <;> rfl
  have g1 : atI ((part1 c d k row T2).map rL) (k : Int) = some (rL (rowAt T2 k)) := by rw [rowL (by rw [lp]; exact hk), rk]
  have lk : (rowAt T2 k).length = w := rowAt_len hw hk
  have g2 : atI ((rowAt T2 k).map ofQ) (c : Int) = some (ofQ (en T2 k c)) := itemQ (by rw [lk]; exact hc)
  refine ⟨_, by wp_walk; rfl, ?_⟩
  rw [seq_next (show _ = Out.next [.par ((part1 c d k row T2).map rL), .val ww, .own ps, .val (nD c), .val (nD d), c5, c6, .val (rL row), c8, c9, .val (nD k), .val (ofQ (en T2 k c)), .no, .no] by (wp_walk using g1, g2))]
  by_cases hkd : k = d
  · refine ⟨_, ?_, .val (nD k), .val (ofQ (en T2 k c)), rfl⟩
    rw [ite_f (by (wp_walk using hkd)), part1_same (.inl hkd) fun r hr' => by rw [hw r hr', hr]]
    rfl
  · have nkd : ¬ ((k : Int) = (d : Int)) := by omega
    by_cases hz : en T2 k c = 0
    · refine ⟨_, ?_, .val (nD k), .val (ofQ (en T2 k c)), rfl⟩
      have hz' : (en T2 k c).num = 0 := num_eq0.mpr hz
      rw [ite_f (by unfold ofQ; (wp_walk using nkd, hz')), part1_same (.inr hz) fun r hr' => by rw [hw r hr', hr]]
      rfl
    · have hz' : ¬ (en T2 k c).num = 0 := fun z => hz (num_eq0.mp z)
      rw [ite_t (by unfold ofQ; (wp_walk using nkd, hz'))]
      have qf : Qb n (en T2 k c) := getD_siz hn (row_siz hs k) c
      have cm : E.comp [12, 13] (Z.zipS (E.ix (Z.own 0) (E.var 10)) (E.var 7)) (S.gtup 2 (S.gcons (S.tgt 12) (S.gcons (S.tgt 13) S.gnil))) T.yes (E.ite (T.tst (E.op2 eqS (E.fld 0 0 (E.var 13)) (E.c (.int 0)))) (E.var 12) (E.own2 0 f_Ratio_sub (E.var 12) (E.own2 0 f_Ratio_mul (E.var 11) (E.var 13))))
          [.par ((part1 c d k row T2).map rL), .val ww, .own ps, .val (nD c), .val (nD d), c5, c6, .val (rL row), c8, c9, .val (nD k), .val (ofQ (en T2 k c)), .no, .no] = .ok ((axpy (en T2 k c) (rowAt T2 k) row).map ofQ) := by
        rw [comp_map (xs := (rowAt T2 k).zip row) (enc := fun p => D.tup [ofQ p.1, ofQ p.2]) (fun p => ofQ (p.1 - en T2 k c * p.2)) (by (wp_walk using g1); rw [pairs_map]) rfl (by rw [List.length_zip]; omega) fun p hp => ?_]
        · unfold axpy
          rw [List.map_zipWith, List.zip, List.map_zipWith]
        · obtain ⟨x, y⟩ := p
          have hx := row_siz hs k x (List.of_mem_zip hp).1
          have hy := hrow y (List.of_mem_zip hp).2
          refine ⟨_, by wp_walk; rfl, rfl, ?_⟩
          by_cases y0 : y = 0
          · have : y.num = 0 := num_eq0.mpr y0
            dsimp only
            unfold ofQ
            (wp_walk using this)
            rw [y0, Rat.mul_zero, show x - 0 = x by grind]
          · have : ¬ y.num = 0 := fun z => y0 (num_eq0.mp z)
            have m1 := mul_q1 qf hy (by omega)
            have m2 := sub_q1 hx (qf.mul hy) (by omega)
            dsimp only
            unfold ofQ at m1 m2 ⊢
            (wp_walk using this, m1, m2)
      refine ⟨_, ?_, .val (nD k), .val (ofQ (en T2 k c)), rfl⟩
      have ix := ixN_n (len := ((part1 c d k row T2).map rL).length) (i := k) (by rw [List.length_map, lp]; exact hk)
      (wp_walk using cm, ix)
      rw [set_map rL, show axpy (en T2 k c) (rowAt T2 k) row = axpy ((rowAt T2 k).getD c 0) (rowAt T2 k) row from rfl, part1_next hk hkd]
theorem gauss_succ (c : Nat) (T : Tab) : gauss (c + 1) T = gstep (gauss c T) c := by
  unfold gauss
  rw [List.range_succ, List.foldl_append]
  rfl
theorem set_set_wid {w : Nat} {T : Tab} (hw : Wid w T) {d i : Nat} {row : List Rat} (hd : d < T.length) (hr : row.length = w) : Wid w ((T.set i (rowAt T d)).set d row) := by
  intro r hr'
  rcases List.mem_or_eq_of_mem_set hr' with h | h
  · rcases List.mem_or_eq_of_mem_set h with h | h
    · exact hw r h
    · rw [h]; exact rowAt_len hw hd
  · rw [h]; exact hr
set_option Elab.async false
set_option linter.all false
set_option maxRecDepth 100000
set_option maxHeartbeats 1000000
open PySem L2
theorem retF_ok {f : Env → Res (List D)} {ρ : Env} {ds : List D} (h : f ρ = .ok ds) : S.retF f ρ = .retF ds := by
  unfold S.retF S.lift
  rw [h]
abbrev tqs (r : List Rat) : D := .tup (r.map tq)
abbrev tql (r : List Rat) : D := .lst (r.map tq)
-- a tuple or a list
abbrev sD : Bool → List D → D
  | true, ds => .tup ds
  | false, ds => .lst ds
-- a Matrix
abbrev mD (A : Tab) (w : Nat) : D := .obj 4 [.tup (A.map rT), nD w]
theorem runD_ret {N n : Nat} {b : Env → Out} {ds : List D} {d : D} (ρ : Env) (hl : ds.length = n) (he : enter N ds = ρ) (h : b ρ = .ret d) : runD N n b ds = .ok d := by
  unfold runD
  rw [if_pos hl, he, h]
theorem runF_ret {N n : Nat} {b : Env → Out} {ds es : List D} (ρ : Env) (hl : ds.length = n) (he : enter N ds = ρ) (h : b ρ = .retF es) : runF N n b ds = .ok es := by
  unfold runF
  rw [if_pos hl, he, h]
theorem sumN_siz {f : Nat → Rat} {m : Nat} : ∀ {n : Nat}, (∀ k, k < n → Qb m (f k)) → Qb (n * (m + 1) + 1) (sumN f n)
  | 0, _ => by rw [sumN]; exact Qb.zero.mono (by omega)
  | n + 1, h => by
    rw [sumN]
    exact ((sumN_siz fun k hk => h k (by omega)).add (h n (by omega))).mono (by rw [Nat.succ_mul]; omega)
theorem itemT {r : List Rat} {j : Nat} (h : j < r.length) : atI (r.map tq) (j : Int) = some (tq (r.getD j 0)) := by rw [atI_map, getD_some h]; rfl
theorem rowTq {A : Tab} {k : Nat} (h : k < A.length) : atI (A.map tqs) (k : Int) = some (tqs (rowAt A k)) := by rw [atI_map, rowAt_some h]; rfl
theorem rowRT {A : Tab} {k : Nat} (h : k < A.length) : atI (A.map rT) (k : Int) = some (rT (rowAt A k)) := by rw [atI_map, rowAt_some h]; rfl
theorem Qb.getD {n : Nat} {r : List Rat} (hn : 1 ≤ n) (h : ∀ x ∈ r, Qb n x) (j : Nat) : Qb n (r.getD j 0) := getD_siz hn h j
theorem law_small_q (n d : Int) : ∃ q : Rat, Qb 4 q ∧ f_law_small [.int n, .int d] = .ok (tq q) := by
  have h1 := Int.fmod_nonneg_of_pos n (show (0 : Int) < 19 by decide)
  have h2 := Int.fmod_lt_of_pos n (show (0 : Int) < 19 by decide)
  have h3 := Int.fmod_nonneg_of_pos d (show (0 : Int) < 5 by decide)
  have h4 := Int.fmod_lt_of_pos d (show (0 : Int) < 5 by decide)
  have d0 : ¬ (d.fmod 5 + 1) = 0 := by omega
  refine ⟨_, Qb.divInt (n := n.fmod 19 - 9) (k := 4) (by omega) (by omega) d0, ?_⟩
  unfold f_law_small b_law_small
  (wp_walk using law_rat_q _ _ d0)
set_option Elab.async false
set_option linter.all false
set_option maxRecDepth 100000
set_option maxHeartbeats 1000000
open PySem L2
theorem inV_ints (f : Nat) : ∀ ps : List Nat, inV (.int (f : Int)) (ps.map fun (p : Nat) => V.int (p : Int)) = decide (f ∈ ps)
  | [] => rfl
  | p :: ps => by
    have ih := inV_ints f ps
    unfold inV at ih ⊢
    rw [List.map_cons, List.any_cons, ih]
    show (((p : Int) == (f : Int)) || decide (f ∈ ps)) = _
    by_cases e : f = p
    · subst e
      simp
    · have e2 : ((p : Int) == (f : Int)) = false := by rw [beq_eq_false_iff_ne]; omega
      rw [e2]
      simp [e]
theorem toV_ints (ps : List Nat) : (ps.map nD).map toV = ps.map fun (p : Nat) => V.int (p : Int) := by rw [List.map_map]; rfl
theorem flat_ints (ps : List Nat) : (ps.map nD).all flatD = true := by rw [List.all_map]; exact List.all_eq_true.mpr fun _ _ => rfl
theorem inF_ints {neg : Bool} {f : Env → Res D} {q : Env → Res (List D)} {ρ : Env} {x : Nat} {ps : List Nat} (hf : f ρ = .ok (nD x)) (hq : q ρ = .ok (ps.map nD)) : E.inF neg f q ρ = .ok (.bl (if neg then !decide (x ∈ ps) else decide (x ∈ ps))) := by
  unfold E.inF
  rw [hf, Res.bind_ok, hq]
  show (if _ ∧ _ then _ else _) = _
  rw [if_pos ⟨rfl, flat_ints ps⟩, toV_ints, show toV (nD x) = .int (x : Int) from rfl, inV_ints]
theorem tst_ok {f : Env → Res D} {ρ : Env} {b : Bool} (h : f ρ = .ok (.bl b)) : T.tst f ρ = .ok b := by
  unfold T.tst
  rw [h]
  rfl
theorem getD_take {ps : List Nat} {n i : Nat} (h : i < n) : (ps.take n).getD i 0 = ps.getD i 0 := by
  rw [List.getD_eq_getElem?_getD, List.getD_eq_getElem?_getD, List.getElem?_take_of_lt h]
theorem zip_ix {α β : Type} {xs : List α} {ys : List β} {j : Nat} {p : α × β} (h : (xs.zip ys)[j]? = some p) : xs[j]? = some p.1 ∧ ys[j]? = some p.2 := by
  obtain ⟨a, b⟩ := p
  rw [List.getElem?_zip_eq_some] at h
  exact h
theorem row_of {A : Tab} {j : Nat} {r : List Rat} (h : A[j]? = some r) : j < A.length ∧ rowAt A j = r := by
  refine ⟨(List.getElem?_eq_some_iff.mp h).1, ?_⟩
  unfold rowAt
  rw [List.getD_eq_getElem?_getD, h]
  rfl
theorem nat_of {ps : List Nat} {j p : Nat} (h : ps[j]? = some p) : j < ps.length ∧ ps.getD j 0 = p := by
  refine ⟨(List.getElem?_eq_some_iff.mp h).1, ?_⟩
  rw [List.getD_eq_getElem?_getD, h]
  rfl
theorem rowAt_take {A : Tab} {n j : Nat} (h : j < n) : rowAt (A.take n) j = rowAt A j := by
  unfold rowAt
  rw [List.getD_eq_getElem?_getD, List.getD_eq_getElem?_getD, List.getElem?_take_of_lt h]
theorem en_take {A : Tab} {n j c : Nat} (h : j < n) : en (A.take n) j c = en A j c := by unfold en; rw [rowAt_take h]
-- the kernel's vectors
def kers (w : Nat) (A : Tab) (ps : List Nat) : Tab := ((List.range w).filter fun f => decide (f ∉ ps)).map (kvec w A ps)
theorem filter_succ (p : Nat → Bool) (n : Nat) : (List.range (n + 1)).filter p = (List.range n).filter p ++ if p n = true then [n] else [] := by
  rw [List.range_succ, List.filter_append]
  cases q : p n with
  | true => rw [List.filter_cons_of_pos q]; simp
  | false => rw [List.filter_cons_of_neg (by simp [q])]; simp
theorem kern_inner {w : Nat} {B : Tab} {ps : List Nat} {f : Nat} (hw : Wid w B) (hf : f < w) (hp : ∀ i, i < ps.length → ps.getD i 0 < w) (hlB : B.length = ps.length) (m3 : D) (out : List D) (c6 c7 : Cell) :
    ∃ ρ', S.forE (Z.zipS (E.fld 4 0 (E.var 1)) (E.var 2)) (S.gtup 2 (S.gcons (S.tgt 6) (S.gcons (S.tgt 7) S.gnil)))
  (S.setAt 5 (E.var 7) (E.meth 0 f_Ratio_neg (E.ix (Z.seq (E.var 6)) (E.var 4)) E.nil)) [.val m3, .val (mD B w), .val (.tup (ps.map nD)), .own out, .val (nD f), .own ((unitv w f).map ofQ), c6, c7] = .next ρ' ∧
    ∃ d6 d7 : Cell, ρ' = [.val m3, .val (mD B w), .val (.tup (ps.map nD)), .own out, .val (nD f), .own ((kvec w B ps f).map ofQ), d6, d7] := by
  have e0 : Z.zipS (E.fld 4 0 (E.var 1)) (E.var 2) [.val m3, .val (mD B w), .val (.tup (ps.map nD)), .own out, .val (nD f), .own ((unitv w f).map ofQ), c6, c7] = .ok ((B.zip ps).map fun p => .tup [rT p.1, nD p.2]) := by
    rw [← pairs_map]
    rfl
  obtain ⟨ρ', e1, d6, d7, e2⟩ := forE_ix (B.zip ps) (g := S.gtup 2 (S.gcons (S.tgt 6) (S.gcons (S.tgt 7) S.gnil))) (b := S.setAt 5 (E.var 7) (E.meth 0 f_Ratio_neg (E.ix (Z.seq (E.var 6)) (E.var 4)) E.nil)) (fun n ρ => ∃ d6 d7 : Cell, ρ = [.val m3, .val (mD B w), .val (.tup (ps.map nD)), .own out, .val (nD f), .own ((setN (unitv w f) (fun i => ps.getD i 0) (fun i => -(en B i f)) n).map ofQ), d6, d7]) e0 ⟨c6, c7, rfl⟩ fun j p ρ hj ⟨d6, d7, e⟩ => by
    subst e
    obtain ⟨r, q⟩ := p
    obtain ⟨h1, h2⟩ := zip_ix hj
    obtain ⟨hjB, hr⟩ : j < B.length ∧ rowAt B j = r := row_of h1
    obtain ⟨hjp, hq⟩ : j < ps.length ∧ ps.getD j 0 = q := nat_of h2
    have lr : r.length = w := hw r (List.mem_of_getElem? h1)
    refine ⟨[.val m3, .val (mD B w), .val (.tup (ps.map nD)), .own out, .val (nD f), .own ((setN (unitv w f) (fun i => ps.getD i 0) (fun i => -(en B i f)) j).map ofQ), .val (rT r), .val (nD q)], rfl, .inl ?_⟩
    have g1 : atI (r.map ofQ) (f : Int) = some (ofQ (r.getD f 0)) := itemQ (by omega)
    refine ⟨_, setAt_next rfl (meth_ok (ix_ok (q := Z.seq (E.var 6)) rfl rfl g1) nil_ok Ratio_neg_q) rfl (ixN_n (i := q) (by rw [List.length_map, setN_len, unitv_len, ← hq]; exact hp j hjp)), .val (rT r), .val (nD q), ?_⟩
    have : r.getD f 0 = en B j f := by unfold en; rw [hr]
    rw [this, set_map ofQ, ← hq]
    rfl
  refine ⟨ρ', e1, d6, d7, ?_⟩
  rw [e2, List.length_zip, hlB, Nat.min_self]
  rfl
set_option Elab.async false
set_option linter.all false
set_option maxRecDepth 100000
set_option maxHeartbeats 1000000
open PySem L2
/-! ### solve -/
-- the table of a system: the rows, the right side, the unit matrix
def augT (A : Tab) (b : List Rat) : Tab := (List.range A.length).map fun k => rowAt A k ++ [b.getD k 0] ++ unitv A.length k
theorem augT_len (A : Tab) (b : List Rat) : (augT A b).length = A.length := by unfold augT; rw [List.length_map, List.length_range]
theorem augT_wid {w : Nat} {A : Tab} (b : List Rat) (hw : Wid w A) : Wid (w + 1 + A.length) (augT A b) := by
  intro r hr
  unfold augT at hr
  obtain ⟨k, hk, rfl⟩ := List.mem_map.mp hr
  rw [List.mem_range] at hk
  rw [List.length_append, List.length_append, unitv_len, rowAt_len hw hk, List.length_singleton]
theorem augT_row {A : Tab} {b : List Rat} {k : Nat} (hk : k < A.length) : rowAt (augT A b) k = rowAt A k ++ [b.getD k 0] ++ unitv A.length k := by
  unfold augT
  show ((List.range A.length).map _).getD k [] = _
  rw [List.getD_eq_getElem?_getD, List.getElem?_map, List.getElem?_range hk]
  rfl
theorem augT_left {w : Nat} {A : Tab} {b : List Rat} (hw : Wid w A) {k j : Nat} (hk : k < A.length) (hj : j < w) : (rowAt (augT A b) k).getD j 0 = (rowAt A k).getD j 0 := by
  have := rowAt_len hw hk
  rw [augT_row hk, List.getD_eq_getElem?_getD, List.append_assoc, List.getElem?_append_left (by omega), ← List.getD_eq_getElem?_getD]
theorem augT_mid {w : Nat} {A : Tab} {b : List Rat} (hw : Wid w A) {k : Nat} (hk : k < A.length) : (rowAt (augT A b) k).getD w 0 = b.getD k 0 := by
  have := rowAt_len hw hk
  rw [augT_row hk, List.getD_eq_getElem?_getD, List.append_assoc, List.getElem?_append_right (by omega), this, Nat.sub_self]
  rfl
theorem augT_siz {n : Nat} {A : Tab} {b : List Rat} (hn : 1 ≤ n) (hs : Siz n A) (hb : ∀ x ∈ b, Qb n x) : Siz n (augT A b) := by
  intro r hr x hx
  unfold augT at hr
  obtain ⟨k, hk, rfl⟩ := List.mem_map.mp hr
  rcases List.mem_append.mp hx with hx | hx
  · rcases List.mem_append.mp hx with hx | hx
    · exact row_siz hs k x hx
    · rw [List.mem_singleton.mp hx]; exact getD_siz hn hb k
  · unfold unitv at hx
    obtain ⟨j, _, rfl⟩ := List.mem_map.mp hx
    split
    · exact Qb.one.mono hn
    · exact Qb.zero.mono hn
theorem dot_aug {w : Nat} {A : Tab} {b x : List Rat} (hw : Wid w A) {k : Nat} (hk : k < A.length) : dotv w (rowAt (augT A b) k) x = dotv w (rowAt A k) x := by
  unfold dotv
  exact sumN_congr fun j hj => by rw [augT_left hw hk hj]
theorem cat_ok {f g : Env → Res (List D)} {ρ : Env} {xs ys : List D} (hf : f ρ = .ok xs) (hg : g ρ = .ok ys) (hl : xs.length + ys.length ≤ 16777216) : E.cat f g ρ = .ok (xs ++ ys) := by
  unfold E.cat
  rw [hf, Res.bind_ok, hg]
  exact if_pos hl
theorem disp_ok {f : Env → Res (List D)} {ρ : Env} {ds : List D} (h : f ρ = .ok ds) (hl : ds.length ≤ 16777216 := by simp) : E.disp f ρ = .ok ds := by
  unfold E.disp
  rw [h]
  exact if_pos hl
theorem cutL_ok {q : Env → Res (List D)} {lo hi : Env → Res (Option Int)} {ρ : Env} {xs : List D} {a b : Option Int} (hq : q ρ = .ok xs) (hl : lo ρ = .ok a) (hh : hi ρ = .ok b) : E.cutL q lo hi ρ = .ok (De.cut xs a b) := by
  unfold E.cutL
  rw [hq, Res.bind_ok, hl, Res.bind_ok, hh]
  rfl
theorem part_ok {f : Env → Res D} {ρ : Env} {i : Int} (h : f ρ = .ok (.int i)) : E.part f ρ = .ok (some i) := by
  unfold E.part
  rw [h]
  rfl
theorem len_ok {q : Env → Res (List D)} {ρ : Env} {ds : List D} {n : Nat} (h : q ρ = .ok ds) (hn : ds.length = n) : E.len q ρ = .ok (nD n) := by
  unfold E.len
  rw [h, ← hn]
  rfl
theorem cut_from {α : Type} (xs : List α) (n : Nat) : De.cut xs (some (n : Int)) none = xs.drop n := by
  unfold De.cut
  rw [HT.sIx_none, HT.sIx_nat]
  by_cases h : n ≤ xs.length
  · rw [Nat.min_eq_left h, List.take_of_length_le (by rw [List.length_drop]; omega)]
  · rw [Nat.min_eq_right (by omega), Nat.sub_self, List.take_zero, List.drop_eq_nil_of_le (by omega)]
theorem zeros_q {i : Nat} {f : Env → Res D} {ρ : Env} {w : Nat} (hf : f ρ = .ok (nD w)) (hv : notOwn ρ i = true) (hi : i < ρ.length) (hw : w ≤ 1000) : E.comp [i] (E.rng1 f) (S.tgt i) T.yes (E.app (objR 0 f_Ratio_init_1) (E.cons (E.c (.int 0)) E.nil)) ρ = .ok ((zerov w).map ofQ) := by
  rw [comp_map (xs := List.range w) (enc := nD) (fun k => ofQ 0) (by rw [rng1_n hf (by omega), rngD_map0]) (by simp [hv]) (by rw [List.length_range]; omega) fun k hk => ?_]
  · unfold zerov
    rw [List.map_map]
    rfl
  · refine ⟨List.set (wipeE ρ [i]) i (.val (nD k)), ?_, rfl, app_ok (cons_ok (f := E.c (.int 0)) rfl nil_ok) (by unfold objR; rw [init1]; rfl)⟩
    unfold S.tgt
    rw [if_pos (by rw [wipeE_length]; exact hi)]
set_option Elab.async false
set_option linter.all false
set_option maxRecDepth 100000
set_option maxHeartbeats 1000000
open PySem L2
theorem seq_own {i : Nat} {ρ : Env} {ds : List D} (h : ρ[i]? = some (.own ds)) : Z.own i ρ = .ok ds := by
  unfold Z.own
  rw [h]
-- the system has a solution: no row below the pivots has a right side
/-! ### the law's vectors -/
def pq (q : Rat) : PyData := .tuple [.int q.num, .int q.den]
theorem toPs_tq : ∀ r : List Rat, toPs (r.map tq) = some (r.map pq)
  | [] => by simp [toPs]
  | q :: r => by
    rw [List.map_cons, toPs, toPs_tq r]
    simp [toP, toPs, pq]
theorem any_pq : ∀ r : List Rat, anyP .none (r.map pq) = false
  | [] => rfl
  | q :: r => by
    have ih := any_pq r
    unfold anyP at ih ⊢
    rw [List.map_cons, List.any_cons, ih]
    rfl
set_option Elab.async false
set_option linter.all false
set_option maxRecDepth 100000
set_option maxHeartbeats 1000000
open PySem L2
/-! ### plain data compared with itself -/
def Sh (d : Nat) (p : PyData) : Prop := p.canLay0 = true ∧ p.depth ≤ d
theorem sh_int (i : Int) (d : Nat) : Sh d (.int i) := ⟨by simp [PyData.canLay0], by simp [PyData.depth]⟩
theorem sh_none (d : Nat) : Sh d .none := ⟨by simp [PyData.canLay0], by simp [PyData.depth]⟩
theorem sh_all {d : Nat} : ∀ {ps : List PyData}, (∀ p ∈ ps, Sh d p) → PyData.canLayAll0 ps = true ∧ PyData.depthAll ps ≤ d
  | [], _ => ⟨by simp [PyData.canLayAll0], by simp [PyData.depthAll]⟩
  | p :: ps, h => by
    obtain ⟨h1, h2⟩ := h p (by simp)
    obtain ⟨h3, h4⟩ := sh_all (ps := ps) fun q hq => h q (by simp [hq])
    exact ⟨by simp [PyData.canLayAll0, h1, h3], by simp [PyData.depthAll]; omega⟩
theorem sh_tuple {d : Nat} {ps : List PyData} (h : ∀ p ∈ ps, Sh d p) : Sh (d + 1) (.tuple ps) := by
  obtain ⟨h1, h2⟩ := sh_all h
  exact ⟨by simp [PyData.canLay0, h1], by simp [PyData.depth]; omega⟩
theorem sh_list {d : Nat} {ps : List PyData} (h : ∀ p ∈ ps, Sh d p) : Sh (d + 1) (.list ps) := by
  obtain ⟨h1, h2⟩ := sh_all h
  exact ⟨by simp [PyData.canLay0, h1], by simp [PyData.depth]; omega⟩
theorem Sh.shaped {d : Nat} {p : PyData} (h : Sh d p) (hd : d ≤ 64) : SeqAt.shaped p = true := by
  unfold SeqAt.shaped
  rw [h.1]
  simp
  exact Nat.le_trans h.2 hd
theorem sh_pq (q : Rat) : Sh 1 (pq q) := sh_tuple (by
  intro p hp
  simp only [List.mem_cons, List.not_mem_nil, or_false] at hp
  rcases hp with rfl | rfl <;> exact sh_int _ _)
theorem sh_row (r : List Rat) : Sh 2 (.tuple (r.map pq)) := sh_tuple (by
  intro p hp
  obtain ⟨q, _, rfl⟩ := List.mem_map.mp hp
  exact sh_pq q)
theorem sh_rowL (r : List Rat) : Sh 2 (.list (r.map pq)) := sh_list (by
  intro p hp
  obtain ⟨q, _, rfl⟩ := List.mem_map.mp hp
  exact sh_pq q)
mutual
theorem eqv_self : ∀ p : PyData, p.canLay0 = true → PyData.eqv p p = true
  | .none, _ => by simp [PyData.eqv]
  | .bool b, _ => by simp [PyData.eqv]
  | .int i, _ => by simp [PyData.eqv]
  | .str x, _ => by simp [PyData.eqv]
  | .list ps, h => by
    simp only [PyData.canLay0] at h
    simp only [PyData.eqv]
    exact eqvAll_self ps h
  | .tuple ps, h => by
    simp only [PyData.canLay0] at h
    simp only [PyData.eqv]
    exact eqvAll_self ps h
  | .dict _, h => by simp [PyData.canLay0] at h
theorem eqvAll_self : ∀ ps : List PyData, PyData.canLayAll0 ps = true → PyData.eqvAll ps ps = true
  | [], _ => by simp [PyData.eqvAll]
  | p :: ps, h => by
    simp only [PyData.canLayAll0, Bool.and_eq_true] at h
    simp only [PyData.eqvAll, eqv_self p h.1, eqvAll_self ps h.2, Bool.and_self]
end
theorem eq_self {x : D} {p : PyData} {d : Nat} (h : toP x = some p) (s : Sh d p) (hd : d ≤ 64 := by decide) : eqD x x = .ok (.bl true) ∧ neD x x = .ok (.bl false) := by
  have e := eqv_self p s.1
  have z := s.shaped hd
  constructor
  · unfold eqD eqWith
    rw [h]
    dsimp only
    rw [if_pos ⟨z, z⟩, e]
    rfl
  · unfold neD eqWith
    rw [h]
    dsimp only
    rw [if_pos ⟨z, z⟩, e]
    rfl
theorem toP_tq (q : Rat) : toP (tq q) = some (pq q) := by simp [toP, toPs, pq]
theorem toP_tqs (r : List Rat) : toP (tqs r) = some (.tuple (r.map pq)) := by
  rw [toP, toPs_tq]
  rfl
theorem eq_tq (q : Rat) : eqD (tq q) (tq q) = .ok (.bl true) ∧ neD (tq q) (tq q) = .ok (.bl false) := eq_self (toP_tq q) (sh_pq q)
theorem eq_tqs (r : List Rat) : eqD (tqs r) (tqs r) = .ok (.bl true) ∧ neD (tqs r) (tqs r) = .ok (.bl false) := eq_self (toP_tqs r) (sh_row r)
/-! ### the law's matrix -/
theorem row_mk {w : Nat} (f : Nat → Rat) {j : Nat} (h : j < w) : ((List.range w).map f).getD j 0 = f j := by
  rw [List.getD_eq_getElem?_getD, List.getElem?_map, List.getElem?_range h]
  rfl
set_option Elab.async false
set_option linter.all false
set_option maxRecDepth 100000
set_option maxHeartbeats 1000000
open PySem L2
theorem app_nextG {i : Nat} {f : Env → Res D} {ρ : Env} {ds : List D} {d : D} (hρ : ρ[i]? = some (.own ds)) (hf : f ρ = .ok d) (hl : ds.length ≤ 1000) : S.app i f ρ = .next (List.set ρ i (.own (ds ++ [d]))) := app_next hρ hf (by omega)
theorem seq_of {f : Env → Res D} {ρ : Env} {ds : List D} (h : f ρ = .ok (.tup ds) ∨ f ρ = .ok (.lst ds)) : Z.seq f ρ = .ok ds := by
  unfold Z.seq
  rcases h with h | h <;> rw [h] <;> rfl
theorem mulI_nn {a b : Nat} (h : b < 1000000) : mulI (.int (a : Int)) (.int (b : Int)) = .ok (.int ((a * b : Nat) : Int)) := by
  rw [mul_small (by omega), Int.natCast_mul]
theorem addI_nn (a b : Nat) : addI (.int (a : Int)) (.int (b : Int)) = .ok (.int ((a + b : Nat) : Int)) := by
  rw [addI_i, Int.natCast_add]
theorem draws_ix {xs : List Int} {j : Nat} (h : j < xs.length) : atI (xs.map D.int) (j : Int) = some (.int (xs.getD j 0)) := by
  rw [atI_map, List.getD_eq_getElem?_getD, List.getElem?_eq_getElem h]
  rfl
-- a row of the law's matrix
theorem matrix_row {xs : List Int} {h w k : Nat} {s0 s1 : D} (lx : 2 * h * w + 2 ≤ xs.length) (hk : k < h) (hh : h ≤ 10) (hw : w ≤ 10) (out : List D) (c8 c9 c10 : Cell) :
    ∃ ρ', S.forE (E.rng1 (E.var 3)) (S.tgt 8)
  (S.seq (S.set 9 (E.ix (Z.seq (E.var 4)) (E.op2 addI (E.c (.int 2)) (E.op2 mulI (E.c (.int 2)) (E.op2 addI (E.op2 mulI (E.var 6) (E.var 3)) (E.var 8))))))
  (S.seq (S.set 10 (E.ix (Z.seq (E.var 4)) (E.op2 addI (E.c (.int 3)) (E.op2 mulI (E.c (.int 2)) (E.op2 addI (E.op2 mulI (E.var 6) (E.var 3)) (E.var 8))))))
  (S.seq (S.ite (T.tst (E.op2 eqS (E.op2 modI (E.op2 addI (E.var 9) (E.ix (Z.seq (E.var 4)) (E.c (.int 0)))) (E.c (.int 3))) (E.c (.int 0))))
  (S.set 9 (E.c (.int 9)))
  S.skip)
  (S.app 7 (E.app f_law_small (E.cons (E.var 9) (E.cons (E.var 10) E.nil))))))) [.val s0, .val s1, .val (nD h), .val (nD w), .val (.lst (xs.map D.int)), .own out, .val (nD k), .own [], c8, c9, c10] = .next ρ' ∧
    ∃ (r : List Rat) (d8 d9 d10 : Cell), r.length = w ∧ (∀ q ∈ r, Qb 4 q) ∧ ρ' = [.val s0, .val s1, .val (nD h), .val (nD w), .val (.lst (xs.map D.int)), .own out, .val (nD k), .own (r.map tq), d8, d9, d10] := by
  have hi : E.rng1 (E.var 3) [.val s0, .val s1, .val (nD h), .val (nD w), .val (.lst (xs.map D.int)), .own out, .val (nD k), .own [], c8, c9, c10] = .ok (rngD 0 w) := rng1_n rfl (by omega)
  refine forE_0 (fun j ρ => ∃ (r : List Rat) (d8 d9 d10 : Cell), r.length = j ∧ (∀ q ∈ r, Qb 4 q) ∧ ρ = [.val s0, .val s1, .val (nD h), .val (nD w), .val (.lst (xs.map D.int)), .own out, .val (nD k), .own (r.map tq), d8, d9, d10]) hi ⟨[], _, _, _, rfl, by simp, rfl⟩ fun j ρ hj ⟨r, d8, d9, d10, hr, hq, e⟩ => ?_
  subst e
  have bd : k * w + j + 1 ≤ h * w := by
    have : (k + 1) * w ≤ h * w := Nat.mul_le_mul_right w hk
    rw [Nat.add_mul] at this
    omega
  have bd2 : h * w ≤ 10 * 10 := Nat.mul_le_mul hh hw
  rw [Nat.mul_assoc] at lx
  generalize hN : h * w = N at lx bd bd2
  have ixe : ∀ (a : Nat) (c9 c10 : Cell), a ≤ 3 → E.op2 addI (E.c (.int (a : Int))) (E.op2 mulI (E.c (.int 2)) (E.op2 addI (E.op2 mulI (E.var 6) (E.var 3)) (E.var 8))) [.val s0, .val s1, .val (nD h), .val (nD w), .val (.lst (xs.map D.int)), .own out, .val (nD k), .own (r.map tq), .val (nD j), c9, c10] = .ok (.int ((a + 2 * (k * w + j) : Nat) : Int)) := fun a c9 c10 ha =>
    op2_ok (f := E.c (.int (a : Int))) rfl (op2_ok (f := E.c (.int 2)) (x := .int ((2 : Nat) : Int)) rfl (op2_ok (op2_ok (f := E.var 6) (h := E.var 3) rfl rfl (mulI_nn (by omega))) (h := E.var 8) rfl (addI_nn _ _)) (mulI_nn (by omega))) (addI_nn _ _)
  refine ⟨[.val s0, .val s1, .val (nD h), .val (nD w), .val (.lst (xs.map D.int)), .own out, .val (nD k), .own (r.map tq), .val (nD j), d9, d10], rfl, ?_⟩
  rw [seq_next (show _ = Out.next [.val s0, .val s1, .val (nD h), .val (nD w), .val (.lst (xs.map D.int)), .own out, .val (nD k), .own (r.map tq), .val (nD j), .val (.int (xs.getD (2 + 2 * (k * w + j)) 0)), d10] from set_ok (ix_ok (q := Z.seq (E.var 4)) rfl (ixe 2 d9 d10 (by omega)) (draws_ix (by omega))))]
  rw [seq_next (show _ = Out.next [.val s0, .val s1, .val (nD h), .val (nD w), .val (.lst (xs.map D.int)), .own out, .val (nD k), .own (r.map tq), .val (nD j), .val (.int (xs.getD (2 + 2 * (k * w + j)) 0)), .val (.int (xs.getD (3 + 2 * (k * w + j)) 0))] from set_ok (ix_ok (q := Z.seq (E.var 4)) rfl (ixe 3 _ d10 (by omega)) (draws_ix (by omega))))]
  generalize xs.getD (2 + 2 * (k * w + j)) 0 = z1
  generalize xs.getD (3 + 2 * (k * w + j)) 0 = z2
  have fin : ∀ z : Int, ∃ ρ2, S.app 7 (E.app f_law_small (E.cons (E.var 9) (E.cons (E.var 10) E.nil))) [.val s0, .val s1, .val (nD h), .val (nD w), .val (.lst (xs.map D.int)), .own out, .val (nD k), .own (r.map tq), .val (nD j), .val (.int z), .val (.int z2)] = .next ρ2 ∧
      ∃ (r' : List Rat) (d8 d9 d10 : Cell), r'.length = j + 1 ∧ (∀ q ∈ r', Qb 4 q) ∧ ρ2 = [.val s0, .val s1, .val (nD h), .val (nD w), .val (.lst (xs.map D.int)), .own out, .val (nD k), .own (r'.map tq), d8, d9, d10] := fun z => by
    obtain ⟨q, bq, e⟩ := law_small_q z z2
    refine ⟨_, app_nextG rfl (app_ok (cons_ok (f := E.var 9) rfl (cons_ok (f := E.var 10) rfl nil_ok)) e) (by rw [List.length_map]; omega), r ++ [q], .val (nD j), .val (.int z), .val (.int z2), by rw [List.length_append, hr]; rfl, fun x hx => ?_, by rw [List.map_append]; rfl⟩
    rcases List.mem_append.mp hx with hx | hx
    · exact hq x hx
    · rw [List.mem_singleton.mp hx]; exact bq
  have x0 : E.op2 modI (E.op2 addI (E.var 9) (E.ix (Z.seq (E.var 4)) (E.c (.int 0)))) (E.c (.int 3)) [.val s0, .val s1, .val (nD h), .val (nD w), .val (.lst (xs.map D.int)), .own out, .val (nD k), .own (r.map tq), .val (nD j), .val (.int z1), .val (.int z2)] = .ok (.int ((z1 + xs.getD 0 0).fmod 3)) :=
    op2_ok (op2_ok (f := E.var 9) rfl (ix_ok (q := Z.seq (E.var 4)) (f := E.c (.int 0)) rfl rfl (draws_ix (j := 0) (by omega))) (addI_i _ _)) (h := E.c (.int 3)) rfl (by rw [modI_i]; rfl)
  by_cases hz : (z1 + xs.getD 0 0).fmod 3 = 0
  · have t : T.tst (E.op2 eqS (E.op2 modI (E.op2 addI (E.var 9) (E.ix (Z.seq (E.var 4)) (E.c (.int 0)))) (E.c (.int 3))) (E.c (.int 0))) [.val s0, .val s1, .val (nD h), .val (nD w), .val (.lst (xs.map D.int)), .own out, .val (nD k), .own (r.map tq), .val (nD j), .val (.int z1), .val (.int z2)] = .ok true :=
      tst_ok (op2_ok x0 (h := E.c (.int 0)) rfl (by rw [hz]; rfl))
    rw [seq_next (show _ = Out.next [.val s0, .val s1, .val (nD h), .val (nD w), .val (.lst (xs.map D.int)), .own out, .val (nD k), .own (r.map tq), .val (nD j), .val (.int 9), .val (.int z2)] by rw [ite_t t]; rfl)]
    exact fin 9
  · have t : T.tst (E.op2 eqS (E.op2 modI (E.op2 addI (E.var 9) (E.ix (Z.seq (E.var 4)) (E.c (.int 0)))) (E.c (.int 3))) (E.c (.int 0))) [.val s0, .val s1, .val (nD h), .val (nD w), .val (.lst (xs.map D.int)), .own out, .val (nD k), .own (r.map tq), .val (nD j), .val (.int z1), .val (.int z2)] = .ok false :=
      tst_ok (op2_ok x0 (h := E.c (.int 0)) rfl (by show Res.ok (D.bl (decide _)) = _; rw [decide_eq_false hz]))
    rw [seq_next (show _ = Out.next [.val s0, .val s1, .val (nD h), .val (nD w), .val (.lst (xs.map D.int)), .own out, .val (nD k), .own (r.map tq), .val (nD j), .val (.int z1), .val (.int z2)] by rw [ite_f t]; rfl)]
    exact fin z1
set_option Elab.async false
set_option linter.all false
set_option maxRecDepth 100000
set_option maxHeartbeats 1000000
open PySem L2
theorem setN_siz {v : List Rat} {p : Nat → Nat} {q : Nat → Rat} {n : Nat} (hv : ∀ x ∈ v, Qb n x) : ∀ {m : Nat}, (∀ i, i < m → Qb n (q i)) → ∀ x ∈ setN v p q m, Qb n x
  | 0, _ => hv
  | m + 1, h => fun x hx => by
    rw [setN] at hx
    rcases List.mem_or_eq_of_mem_set hx with hx | hx
    · exact setN_siz hv (fun i hi => h i (by omega)) x hx
    · rw [hx]; exact h m (by omega)
theorem setN_congr {v : List Rat} {p : Nat → Nat} {q q' : Nat → Rat} : ∀ {m : Nat}, (∀ i, i < m → q i = q' i) → setN v p q m = setN v p q' m
  | 0, _ => rfl
  | m + 1, h => by rw [setN, setN, setN_congr fun i hi => h i (by omega), h m (by omega)]
theorem unitv_siz {n m i : Nat} (hn : 1 ≤ n) : ∀ x ∈ unitv m i, Qb n x := fun x hx => by
  unfold unitv at hx
  obtain ⟨j, _, rfl⟩ := List.mem_map.mp hx
  split
  · exact Qb.one.mono hn
  · exact Qb.zero.mono hn
theorem zerov_siz {n m : Nat} (hn : 1 ≤ n) : ∀ x ∈ zerov m, Qb n x := fun x hx => by
  unfold zerov at hx
  obtain ⟨j, _, rfl⟩ := List.mem_map.mp hx
  exact Qb.zero.mono hn
theorem kvec_take {w : Nat} {B : Tab} {ps : List Nat} : kvec w (B.take ps.length) ps = kvec w B ps := by
  funext f
  unfold kvec
  exact setN_congr fun i hi => by rw [en_take hi]
theorem kvec_siz {w n : Nat} {B : Tab} {ps : List Nat} (hn : 1 ≤ n) (h : Siz n B) (f : Nat) : ∀ x ∈ kvec w B ps f, Qb n x := setN_siz (unitv_siz hn) fun i _ => (getD_siz hn (row_siz h i) f).neg
theorem xsol_siz {w n : Nat} {B : Tab} {ps : List Nat} (hn : 1 ≤ n) (h : Siz n B) : ∀ x ∈ xsol w B ps, Qb n x := setN_siz (zerov_siz hn) fun i _ => getD_siz hn (row_siz h i) w
theorem nodup_getD {l : List Nat} (h : l.Nodup) {i j : Nat} (hi : i < l.length) (hj : j < l.length) (e : l.getD i 0 = l.getD j 0) : i = j := by
  rw [List.getD_eq_getElem?_getD, List.getD_eq_getElem?_getD, List.getElem?_eq_getElem hi, List.getElem?_eq_getElem hj] at e
  exact (List.getElem_inj h).mp e
theorem atN {l : List Nat} {i : Nat} (h : i < l.length) : atI (l.map nD) (i : Int) = some (nD (l.getD i 0)) := by
  rw [atI_map, List.getD_eq_getElem?_getD, List.getElem?_eq_getElem h]
  rfl
abbrev oc : Option D → Cell
  | none => .no
  | some d => .val d
theorem list_skolem {α : Type} {P : Nat → Rat → Prop} (h : ∀ k, ∃ q, P k q) : ∃ f : Nat → Rat, ∀ k, P k (f k) := Classical.axiomOfChoice h
set_option Elab.async false
set_option linter.all false
set_option maxRecDepth 100000
set_option maxHeartbeats 1000000
open PySem L2
-- a loop that may return: the first item with p ends it with o
theorem forL_stop {α : Type} {enc : α → D} {g : D → Env → Option Env} {b : Env → Out} (p : α → Bool) (d : D) (I : Env → Prop) : ∀ (xs : List α) (ρ : Env), I ρ → (∀ x ∈ xs, ∀ ρ, I ρ → ∃ ρ1, g (enc x) ρ = some ρ1 ∧ (p x = true → b ρ1 = .ret d) ∧ (p x = false → ∃ ρ2, b ρ1 = .next ρ2 ∧ I ρ2)) →
    (xs.any p = true → S.forL g b (xs.map enc) ρ = .ret d) ∧ (xs.any p = false → ∃ ρ', S.forL g b (xs.map enc) ρ = .next ρ' ∧ I ρ')
  | [], ρ, h, _ => ⟨fun z => by simp at z, fun _ => ⟨ρ, rfl, h⟩⟩
  | x :: xs, ρ, h, k => by
    obtain ⟨ρ1, e1, e2, e3⟩ := k x List.mem_cons_self ρ h
    rw [List.map_cons, S.forL, e1, List.any_cons]
    dsimp only
    cases hp : p x with
    | true =>
      rw [e2 hp]
      exact ⟨fun _ => rfl, fun z => by simp at z⟩
    | false =>
      obtain ⟨ρ2, e4, h2⟩ := e3 hp
      rw [e4, Bool.false_or]
      exact forL_stop p d I xs ρ2 h2 fun y hy => k y (List.mem_cons_of_mem _ hy)
theorem forE_stop {α : Type} {enc : α → D} {it : Env → Res (List D)} {g : D → Env → Option Env} {b : Env → Out} (xs : List α) (p : α → Bool) (d : D) (I : Env → Prop) {ρ : Env} (hi : it ρ = .ok (xs.map enc)) (h : I ρ) (k : ∀ x ∈ xs, ∀ ρ, I ρ → ∃ ρ1, g (enc x) ρ = some ρ1 ∧ (p x = true → b ρ1 = .ret d) ∧ (p x = false → ∃ ρ2, b ρ1 = .next ρ2 ∧ I ρ2)) :
    (xs.any p = true → S.forE it g b ρ = .ret d) ∧ (xs.any p = false → ∃ ρ', S.forE it g b ρ = .next ρ' ∧ I ρ') := by
  unfold S.forE S.lift
  rw [hi]
  exact forL_stop p d I xs ρ h k
theorem rat_eq_iff {a b : Rat} : a = b ↔ a.num = b.num ∧ (a.den : Int) = b.den := ⟨fun h => by rw [h]; exact ⟨rfl, rfl⟩, fun h => Rat.ext h.1 (by have := h.2; omega)⟩
theorem eand_t {f g : Env → Res D} {ρ : Env} (h : f ρ = .ok (.bl true)) : E.and f g ρ = g ρ := by
  unfold E.and
  rw [h]
  rfl
theorem eand_f {f g : Env → Res D} {ρ : Env} (h : f ρ = .ok (.bl false)) : E.and f g ρ = .ok (.bl false) := by
  unfold E.and
  rw [h]
  rfl
theorem neS_num (q : Rat) : neS (.int q.num) (.int 0) = .ok (.bl (!decide (q = 0))) := by
  rw [neS_int]
  congr 3
  exact decide_eq_decide.mpr num_eq0
theorem nz_ok {f : Env → Res D} {ρ : Env} {q : Rat} (h : f ρ = .ok (ofQ q)) : T.tst (E.op2 neS (E.fld 0 0 f) (E.c (.int 0))) ρ = .ok (!decide (q = 0)) := tst_ok (op2_ok (fld_ok h) (h := E.c (.int 0)) rfl (neS_num q))
theorem Ratio_q (i : Int) : objR 0 f_Ratio_init_1 [.int i] = .ok (ofQ i) := by
  unfold objR
  rw [init1_q]
  rfl
theorem range_getD {w : Nat} {r : List Rat} (h : r.length = w) : r = (List.range w).map fun j => r.getD j 0 := by
  refine row_ext (by rw [h, List.length_map, List.length_range]) fun j => ?_
  by_cases hj : j < w
  · rw [row_mk _ hj]
  · rw [List.getD_eq_getElem?_getD, List.getD_eq_getElem?_getD, List.getElem?_eq_none (by omega), List.getElem?_eq_none (by rw [List.length_map, List.length_range]; omega)]
theorem zip_range {w : Nat} {r : List Rat} {f : Nat → Rat} (h : r.length = w) : pairs (((List.range w).map f).map ofQ) (r.map ofQ) = (List.range w).map fun j => D.tup [ofQ (f j), ofQ (r.getD j 0)] := by
  conv => lhs; rw [range_getD h]
  unfold pairs
  simp only [List.map_map, List.zipWith_map, List.zipWith_self]
  rfl
theorem isT (b : Bool) (ds : List D) : isiR isi_tuple (sD b ds) = .ok (.bl b) := by cases b <;> rfl
theorem seq_sD {f : Env → Res D} {ρ : Env} {b : Bool} {ds : List D} (h : f ρ = .ok (sD b ds)) : Z.seq f ρ = .ok ds := by cases b <;> exact seq_of (by first | exact .inl h | exact .inr h)
theorem nD_ne {a b : Nat} : neS (nD a) (nD b) = .ok (.bl (!decide (a = b))) := by
  rw [neS_int]
  congr 3
  exact decide_eq_decide.mpr (by omega)
set_option Elab.async false
set_option linter.all false
set_option maxRecDepth 100000
set_option maxHeartbeats 1000000
open PySem L2
theorem forL_find {α : Type} {enc : α → D} {g : D → Env → Option Env} {b : Env → Out} (p : α → Bool) (d : α → D) (I : Env → Prop) : ∀ (xs : List α) (ρ : Env), I ρ → (∀ x ∈ xs, ∀ ρ, I ρ → ∃ ρ1, g (enc x) ρ = some ρ1 ∧ (p x = true → b ρ1 = .ret (d x)) ∧ (p x = false → ∃ ρ2, b ρ1 = .next ρ2 ∧ I ρ2)) →
    (∃ x ∈ xs, p x = true) → ∃ x ∈ xs, p x = true ∧ S.forL g b (xs.map enc) ρ = .ret (d x)
  | [], ρ, h, _, z => by obtain ⟨x, hx, _⟩ := z; cases hx
  | x :: xs, ρ, h, k, z => by
    obtain ⟨ρ1, e1, e2, e3⟩ := k x List.mem_cons_self ρ h
    rw [List.map_cons, S.forL, e1]
    dsimp only
    cases hp : p x with
    | true => exact ⟨x, List.mem_cons_self, hp, by rw [e2 hp]⟩
    | false =>
      obtain ⟨ρ2, e4, h2⟩ := e3 hp
      rw [e4]
      obtain ⟨y, hy, h3, h4⟩ := forL_find p d I xs ρ2 h2 (fun y hy => k y (List.mem_cons_of_mem _ hy)) (by
        obtain ⟨y, hy, hp2⟩ := z
        rcases List.mem_cons.mp hy with e | hy
        · rw [e, hp] at hp2; cases hp2
        · exact ⟨y, hy, hp2⟩)
      exact ⟨y, List.mem_cons_of_mem _ hy, h3, h4⟩
theorem forE_find {α : Type} {enc : α → D} {it : Env → Res (List D)} {g : D → Env → Option Env} {b : Env → Out} (xs : List α) (p : α → Bool) (d : α → D) (I : Env → Prop) {ρ : Env} (hi : it ρ = .ok (xs.map enc)) (h : I ρ) (k : ∀ x ∈ xs, ∀ ρ, I ρ → ∃ ρ1, g (enc x) ρ = some ρ1 ∧ (p x = true → b ρ1 = .ret (d x)) ∧ (p x = false → ∃ ρ2, b ρ1 = .next ρ2 ∧ I ρ2))
    (z : ∃ x ∈ xs, p x = true) : ∃ x ∈ xs, p x = true ∧ S.forE it g b ρ = .ret (d x) := by
  unfold S.forE S.lift
  rw [hi]
  exact forL_find p d I xs ρ h k z
-- the weights that a row tells
def wts (w : Nat) (r : List Rat) : List Rat := (r.drop (w + 1)).map fun x => x / r.getD w 0
theorem wts_len {w n : Nat} {r : List Rat} (h : r.length = w + 1 + n) : (wts w r).length = n := by
  unfold wts
  rw [List.length_map, List.length_drop]
  omega
theorem wts_getD {w n i : Nat} {r : List Rat} (h : r.length = w + 1 + n) (hi : i < n) : (wts w r).getD i 0 = r.getD (w + 1 + i) 0 / r.getD w 0 := by
  unfold wts
  rw [List.getD_eq_getElem?_getD, List.getElem?_map, List.getElem?_drop, getD_some (by omega)]
  rfl
theorem wts_siz {w m : Nat} {r : List Rat} (hm : 1 ≤ m) (h : ∀ x ∈ r, Qb m x) : ∀ x ∈ wts w r, Qb (m + m) x := fun x hx => by
  unfold wts at hx
  obtain ⟨z, hz, rfl⟩ := List.mem_map.mp hx
  exact (h z (List.mem_of_mem_drop hz)).div (getD_siz hm h w) hm
theorem wts_ok {w : Nat} {A B : Tab} {b : List Rat} {ps : List Nat} {k : Nat} (hw : Wid w A) (hb : b.length = A.length) (R : Red (w + 1 + A.length) w B ps) (hl : B.length = A.length)
    (wit : ∀ r ∈ B, Wit (w + 1) (w + 1) A.length (fun k j => if j < w then en A k j else b.getD k 0) r) (k1 : ps.length ≤ k) (k2 : k < A.length) (nz : en B k w ≠ 0) :
    combv w A (wts w (rowAt B k)) = zerov w ∧ dotv A.length (wts w (rowAt B k)) b = 1 := by
  have lr : (rowAt B k).length = w + 1 + A.length := rowAt_len R.wid (by omega)
  have wk := wit _ (rowAt_mem (show k < B.length by omega))
  have nz' : (rowAt B k).getD w 0 ≠ 0 := nz
  constructor
  · rw [zero_iff combv_len]
    intro j hj
    rw [combv_getD hj]
    have e := wk j (by omega)
    rw [show (rowAt B k).getD j 0 = 0 from R.low k k1 (by omega) j hj] at e
    rw [sumN_congr (g := fun i => ((rowAt B k).getD w 0)⁻¹ * ((rowAt B k).getD (w + 1 + i) 0 * (if j < w then en A i j else b.getD i 0))) fun i hi => by rw [wts_getD lr hi, if_pos hj]; grind, sumN_smul, ← e]
    grind
  · unfold dotv
    have e := wk w (by omega)
    rw [sumN_congr (g := fun i => ((rowAt B k).getD w 0)⁻¹ * ((rowAt B k).getD (w + 1 + i) 0 * (if w < w then en A i w else b.getD i 0))) fun i hi => by rw [wts_getD lr hi, if_neg (Nat.lt_irrefl w)]; grind, sumN_smul, ← e]
    grind
theorem augT_wit {w : Nat} {A : Tab} {b : List Rat} (hw : Wid w A) : ∀ r ∈ augT A b, Wit (w + 1) (w + 1) A.length (fun k j => if j < w then en A k j else b.getD k 0) r := by
  rw [all_rows]
  intro k hk j hj
  rw [augT_len] at hk
  have u : ∀ i, i < A.length → (rowAt (augT A b) k).getD (w + 1 + i) 0 = if i = k then 1 else 0 := fun i hi => by
    rw [augT_row hk, List.getD_eq_getElem?_getD, List.getElem?_append_right (by rw [List.length_append, rowAt_len hw hk]; simp), List.length_append, rowAt_len hw hk, show w + 1 + i - (w + [b.getD k 0].length) = i by simp, ← List.getD_eq_getElem?_getD, unitv_getD hi]
  rw [sumN_single (i := k) hk fun i hi ne => by rw [u i hi, if_neg ne]; grind, u k hk, if_pos rfl]
  dsimp only
  split
  · rename_i h
    rw [augT_left hw hk h]
    unfold en
    grind
  · have : j = w := by omega
    subst this
    rw [augT_mid hw hk]
    grind
theorem eqv_pq (a b : Rat) : PyData.eqv (pq a) (pq b) = decide (a = b) := by
  unfold pq
  simp only [PyData.eqv, PyData.eqvAll, Bool.and_true]
  by_cases h : a = b
  · rw [h, decide_eq_true rfl]
    simp
  · rw [decide_eq_false h]
    rw [Bool.and_eq_false_iff]
    by_cases h1 : a.num = b.num
    · refine .inr ?_
      rw [beq_eq_false_iff_ne]
      exact fun z => h (rat_eq_iff.mpr ⟨h1, z⟩)
    · refine .inl ?_
      rw [beq_eq_false_iff_ne]
      exact h1
theorem eqvAll_pq : ∀ a b : List Rat, PyData.eqvAll (a.map pq) (b.map pq) = decide (a = b)
  | [], [] => by simp [PyData.eqvAll]
  | [], _ :: _ => by simp [PyData.eqvAll]
  | _ :: _, [] => by simp [PyData.eqvAll]
  | x :: a, y :: b => by
    rw [List.map_cons, List.map_cons, PyData.eqvAll, eqv_pq, eqvAll_pq a b, ← Bool.decide_and]
    exact decide_eq_decide.mpr (by rw [List.cons.injEq])
theorem eqD_tq (a b : Rat) : eqD (tq a) (tq b) = .ok (.bl (decide (a = b))) := by
  unfold eqD eqWith
  rw [toP_tq, toP_tq]
  dsimp only
  rw [if_pos ⟨(sh_pq a).shaped (by decide), (sh_pq b).shaped (by decide)⟩, eqv_pq]
  rfl
theorem eqD_tqs (a b : List Rat) : eqD (tqs a) (tqs b) = .ok (.bl (decide (a = b))) := by
  unfold eqD eqWith
  rw [toP_tqs, toP_tqs]
  dsimp only
  rw [if_pos ⟨(sh_row a).shaped (by decide), (sh_row b).shaped (by decide)⟩, show PyData.eqv (.tuple (a.map pq)) (.tuple (b.map pq)) = decide (a = b) by simp only [PyData.eqv]; exact eqvAll_pq a b]
  rfl
set_option Elab.async false
set_option linter.all false
set_option maxRecDepth 100000
set_option maxHeartbeats 1000000
open PySem L2
theorem asg_ok {g : D → Env → Option Env} {f : Env → Res D} {ρ ρ' : Env} {d : D} (h : f ρ = .ok d) (hg : g d ρ = some ρ') : S.asg g f ρ = .next ρ' := by
  unfold S.asg S.lift
  rw [h]
  dsimp only
  rw [hg]
theorem exprM_ok {i : Nat} {g : List D → List D → Res (List D × D)} {fa : Env → Res (List D)} {ρ : Env} {es es' as : List D} {d : D} (hρ : ρ[i]? = some (.own es)) (ha : fa ρ = .ok as) (hg : g es as = .ok (es', d)) : S.exprM i g fa ρ = .next (List.set ρ i (.own es')) := by
  unfold S.exprM S.lift
  rw [hρ]
  dsimp only
  rw [ha]
  dsimp only
  rw [hg]
theorem methF_ok {c : Nat} {g : List D → Res (List D)} {fo : Env → Res D} {fa : Env → Res (List D)} {ρ : Env} {fs as : List D} {z : List D} (hf : fo ρ = .ok (.obj c fs)) (ha : fa ρ = .ok as) (hg : g (.obj c fs :: as) = .ok z) : E.methF c g fo fa ρ = .ok z := by
  unfold E.methF
  rw [hf, Res.bind_ok]
  dsimp only
  rw [if_pos rfl, ha, Res.bind_ok]
  exact hg
theorem enum_ok {α : Type} {f : Env → Res (List D)} {ρ : Env} {enc : Nat → D} {n : Nat} (h : f ρ = .ok ((List.range n).map enc)) : Z.enum f ρ = .ok ((List.range n).map fun k => D.tup [nD k, enc k]) := by
  unfold Z.enum
  rw [h, Res.bind_ok]
  congr 1
  rw [List.length_map, List.length_range]
  unfold pairs ixs
  simp only [List.zipWith_map, List.zipWith_self]
theorem rows_range {A : Tab} (g : List Rat → D) : A.map g = (List.range A.length).map fun k => g (rowAt A k) := by
  refine List.ext_getElem (by simp) fun i h1 h2 => ?_
  rw [List.getElem_map, List.getElem_map, List.getElem_range]
  congr 1
  rw [List.length_map] at h1
  unfold rowAt
  rw [List.getD_eq_getElem?_getD, List.getElem?_eq_getElem h1]
  rfl
theorem ints_range (ps : List Nat) : ps.map nD = (List.range ps.length).map fun k => nD (ps.getD k 0) := by
  refine List.ext_getElem (by simp) fun i h1 h2 => ?_
  rw [List.getElem_map, List.getElem_map, List.getElem_range]
  rw [List.length_map] at h1
  rw [List.getD_eq_getElem?_getD, List.getElem?_eq_getElem h1]
  rfl
theorem ltI_nn {a b : Nat} : ltI (nD a) (nD b) = .ok (.bl (decide (a < b))) := by
  rw [ltI_i]
  congr 2
  exact decide_eq_decide.mpr (by omega)
theorem eqS_nn {a b : Nat} : eqS (nD a) (nD b) = .ok (.bl (decide (a = b))) := by
  rw [eqS_int]
  congr 2
  exact decide_eq_decide.mpr (by omega)
theorem neD_tq (a b : Rat) : neD (tq a) (tq b) = .ok (.bl (!decide (a = b))) := by
  unfold neD eqWith
  rw [toP_tq, toP_tq]
  dsimp only
  rw [if_pos ⟨(sh_pq a).shaped (by decide), (sh_pq b).shaped (by decide)⟩, eqv_pq]
  rfl
def fitB (w : Nat) (A U : Tab) : Bool := !(List.range A.length).any fun i => (List.range A.length).any fun k => !decide (dotv w (rowAt U i) (rowAt A k) = if k = i then 1 else 0)
theorem fitB_iff {w : Nat} {A U : Tab} : fitB w A U = true ↔ Fits w A U := by
  unfold fitB Fits
  rw [Bool.not_eq_true', List.any_eq_false]
  constructor
  · intro h i hi k hk
    have a := h i (List.mem_range.mpr hi)
    rw [Bool.not_eq_true, List.any_eq_false] at a
    have b := a k (List.mem_range.mpr hk)
    simpa using b
  · intro h i hi
    rw [Bool.not_eq_true, List.any_eq_false]
    intro k hk
    have := h i (List.mem_range.mp hi) k (List.mem_range.mp hk)
    simpa using this
theorem eq_int (i k : Nat) : E.op1 intC (E.op2 eqS (E.c (nD k)) (E.c (nD i))) [] = .ok (.int (if k = i then 1 else 0)) := by
  rw [op1_ok (op2_ok (f := E.c (nD k)) (h := E.c (nD i)) rfl rfl eqS_nn) (show intC (.bl (decide (k = i))) = .ok (.int (if decide (k = i) = true then 1 else 0)) from rfl)]
  by_cases e : k = i <;> simp [e]
theorem int_q {f : Env → Res D} {ρ : Env} {i k : Nat} (h : f ρ = .ok (.bl (decide (k = i)))) : E.op1 intC f ρ = .ok (.int (if k = i then 1 else 0)) := by
  refine op1_ok h ?_
  by_cases e : k = i <;> simp [e, intC]
theorem Ratio_ite {c : Prop} [Decidable c] : objR 0 f_Ratio_init_1 [.int (if c then 1 else 0)] = .ok (ofQ (if c then 1 else 0)) := by
  by_cases h : c
  · rw [if_pos h, if_pos h]; exact Ratio_q 1
  · rw [if_neg h, if_neg h]; exact Ratio_q 0
theorem tq_ite {c : Prop} [Decidable c] : D.tup [.int (if c then 1 else 0), .int 1] = tq (if c then 1 else 0) := by
  by_cases h : c
  · rw [if_pos h, if_pos h]; rfl
  · rw [if_neg h, if_neg h]; rfl
set_option Elab.async false
set_option linter.all false
set_option maxRecDepth 100000
set_option maxHeartbeats 1000000
open PySem L2
theorem catT_ok {xs ys : List D} (h : xs.length + ys.length ≤ 16777216) : catT (.tup xs) (.tup ys) = .ok (.tup (xs ++ ys)) := by
  unfold catT
  dsimp only
  rw [if_pos (by rw [size_eq]; exact h)]
theorem nums_hw (x : Int) (m : Nat) (hm : 0 < m) (hm2 : m < 100) : ∃ h : Nat, h < m ∧ x.fmod m = (h : Int) := ⟨(x.fmod m).toNat, by
    have a := Int.fmod_nonneg_of_pos x (show (0 : Int) < m by omega)
    have b := Int.fmod_lt_of_pos x (show (0 : Int) < m by omega)
    omega⟩
theorem zeros_tq {i : Nat} {f : Env → Res D} {ρ : Env} {w : Nat} (hf : f ρ = .ok (nD w)) (hv : notOwn ρ i = true) (hi : i < ρ.length) (hw : w ≤ 1000) : E.comp [i] (E.rng1 f) (S.tgt i) T.yes (E.tupl (E.cons (E.c (.int 0)) (E.cons (E.c (.int 1)) E.nil))) ρ = .ok ((zerov w).map tq) := by
  rw [comp_map (xs := List.range w) (enc := nD) (fun k => tq 0) (by rw [rng1_n hf (by omega), rngD_map0]) (by simp [hv]) (by rw [List.length_range]; omega) fun k hk => ?_]
  · unfold zerov
    rw [List.map_map]
    rfl
  · refine ⟨List.set (wipeE ρ [i]) i (.val (nD k)), ?_, rfl, tupl_ok (cons_ok (f := E.c (.int 0)) rfl (cons_ok (f := E.c (.int 1)) rfl nil_ok))⟩
    unfold S.tgt
    rw [if_pos (by rw [wipeE_length]; exact hi)]
theorem eqS_num (q : Rat) : eqS (.int q.num) (.int 0) = .ok (.bl (decide (q = 0))) := by
  rw [eqS_int]
  congr 2
  exact decide_eq_decide.mpr num_eq0
theorem tq_0 (q : Rat) : atI [D.int q.num, D.int (q.den : Int)] (0 : Int) = some (.int q.num) := atI_0 _ _
def piM (p : Nat) : Env → Nat
  | [_, .val (.int a)] => p - a.toNat
  | _ => 0
theorem neD_11 (q : Rat) (h : q = 1) : neD (tq q) (.tup [.int 1, .int 1]) = .ok (.bl false) := by
  rw [h]
  exact (eq_tq 1).2
theorem tq_neg (q : Rat) : D.tup [.int (-q.num), .int (q.den : Int)] = tq (-q) := rfl
theorem tq_1 (q : Rat) : atI [D.int q.num, D.int (q.den : Int)] (1 : Int) = some (.int (q.den : Int)) := atI_1 _ _ _
theorem small_63 {n : Nat} (h : n ≤ 1000) : (0 : Int) ≤ (n : Int) ∧ (n : Int) < 9223372036854775808 := ⟨by omega, by omega⟩
theorem eqTupL_q {α : Type} [DecidableEq α] {E : D → D → Res Bool} {enc : α → D} (h : ∀ a b, E (enc a) (enc b) = .ok (decide (a = b))) : ∀ r s : List α, eqTupL E (r.map enc) (s.map enc) = .ok (decide (r = s))
  | [], [] => by simp [eqTupL]
  | [], _ :: _ => by simp [eqTupL]
  | _ :: _, [] => by simp [eqTupL]
  | a :: r, b :: s => by
    rw [List.map_cons, List.map_cons, eqTupL, h, Res.bind_ok]
    by_cases e : a = b
    · rw [decide_eq_true e, if_pos rfl, eqTupL_q h r s]
      congr 1
      exact decide_eq_decide.mpr (by rw [List.cons.injEq]; simp [e])
    · rw [decide_eq_false e, if_neg Bool.false_ne_true, decide_eq_false fun z => e (List.cons.inj z).1]
set_option Elab.async false
set_option linter.all false
set_option maxRecDepth 100000
set_option maxHeartbeats 1000000
-- Poly = list of Rat
open PySem L2
def trM : Env → Nat
  | [_, .val (.int a)] => a.toNat
  | _ => 0
theorem subI_1 (a : Nat) : subI (nD (a + 1)) (.int 1) = .ok (nD a) := by
  show Res.ok (D.int (((a + 1 : Nat) : Int) - 1)) = Res.ok (D.int (a : Int))
  rw [show ((a + 1 : Nat) : Int) - 1 = (a : Int) by omega]
theorem gtI_1 (a : Nat) : gtI (nD (a + 1)) (.int 0) = .ok (.bl true) := by
  show Res.ok (D.bl (decide (((a + 1 : Nat) : Int) > 0))) = _
  rw [decide_eq_true (by omega)]
theorem cut_upto {α : Type} (xs : List α) (n : Nat) : De.cut xs none (some (n : Int)) = xs.take n := by
  unfold De.cut
  rw [HT.sIx_none, HT.sIx_nat, List.drop_zero, Nat.sub_zero]
  by_cases h : n ≤ xs.length
  · rw [Nat.min_eq_left h]
  · rw [Nat.min_eq_right (by omega), List.take_length, List.take_of_length_le (by omega)]
theorem trimmed_q {r : List Rat} : f_trimmed [.lst (r.map ofQ)] = .ok (.tup ((trim r).map ofQ)) := by
  refine runD_ret [.val (.lst (r.map ofQ)), .no] rfl rfl ?_
  unfold b_trimmed
  refine (seq_next (ρ' := [.val (.lst (r.map ofQ)), .val (nD r.length)]) (set_ok (len_ok rfl (List.length_map _)))).trans ?_
  have c0 : T.and (T.tst (E.op2 gtI (E.var 1) (E.c (.int 0)))) (T.tst (E.op2 eqS (E.fld 0 0 (E.ix (Z.seq (E.var 0)) (E.op2 subI (E.var 1) (E.c (.int 1))))) (E.c (.int 0)))) [.val (.lst (r.map ofQ)), .val (nD 0)] = .ok false := rfl
  have cnd : ∀ a, a + 1 ≤ r.length → T.and (T.tst (E.op2 gtI (E.var 1) (E.c (.int 0)))) (T.tst (E.op2 eqS (E.fld 0 0 (E.ix (Z.seq (E.var 0)) (E.op2 subI (E.var 1) (E.c (.int 1))))) (E.c (.int 0)))) [.val (.lst (r.map ofQ)), .val (nD (a + 1))] = .ok (decide (r.getD a 0 = 0)) := fun a ha =>
    and_t (tst_ok (op2_ok rfl rfl (gtI_1 a))) (tst_ok (op2_ok (fld_ok (ix_ok (seq_of (.inr rfl)) (op2_ok rfl rfl (subI_1 a)) (itemQ (by omega))) rfl) rfl (eqS_num _)))
  obtain ⟨ρ', e1, ⟨a, ha, hz, e2⟩, e3⟩ := while_inv (c := T.and (T.tst (E.op2 gtI (E.var 1) (E.c (.int 0)))) (T.tst (E.op2 eqS (E.fld 0 0 (E.ix (Z.seq (E.var 0)) (E.op2 subI (E.var 1) (E.c (.int 1))))) (E.c (.int 0))))) (b := S.set 1 (E.op2 subI (E.var 1) (E.c (.int 1))))
    (fun ρ => ∃ a, a ≤ r.length ∧ (∀ j, a ≤ j → r.getD j 0 = 0) ∧ ρ = [.val (.lst (r.map ofQ)), .val (nD a)]) trM (fun ρ ⟨a, ha, hz, e⟩ => by
    subst e
    cases a with
    | zero => exact .inl c0
    | succ a =>
      rw [cnd a ha]
      by_cases z : r.getD a 0 = 0
      · refine .inr ⟨by rw [decide_eq_true z], [.val (.lst (r.map ofQ)), .val (nD a)], set_ok (op2_ok rfl rfl (subI_1 a)), ⟨a, by omega, fun j hj => ?_, rfl⟩, ?_⟩
        · rcases Nat.lt_or_ge a j with q | q
          · exact hz j q
          · rw [show j = a by omega]; exact z
        · show ((a : Int)).toNat < (((a + 1 : Nat) : Int)).toNat
          omega
      · exact .inl (by rw [decide_eq_false z])) (r.length + 1) [.val (.lst (r.map ofQ)), .val (nD r.length)] ⟨r.length, Nat.le_refl _, fun j hj => by rw [List.getD_eq_getElem?_getD, List.getElem?_eq_none hj]; rfl, rfl⟩ (by show ((r.length : Int)).toNat < _; omega)
  subst e2
  have hend : a = 0 ∨ r.getD (a - 1) 0 ≠ 0 := by
    cases a with
    | zero => exact .inl rfl
    | succ a =>
      rw [cnd a ha] at e3
      exact .inr (of_decide_eq_false (Res.ok.inj e3))
  rw [take_trim hz hend ha]
  refine (seq_next (ρ' := [.val (.lst (r.map ofQ)), .val (nD a)]) ?_).trans (ret_ok ?_)
  · unfold S.whil
    rw [show fuelI 1 [.val (.lst (r.map ofQ)), .val (nD r.length)] = r.length + 1 by rfl]
    exact e1
  · show E.asTup _ _ = _
    unfold E.asTup
    rw [cutL_ok (xs := r.map ofQ) (a := none) (b := some (a : Int)) rfl rfl rfl, cut_upto, ← List.map_take]
    rfl
theorem Poly_init_q {r : List Rat} {d : D} (hd : d = .lst (r.map ofQ) ∨ d = .tup (r.map ofQ)) (hl : r.length ≤ 1000) : f_Poly_init_1 [d] = .ok [.tup ((trim r).map ofQ)] := by
  have hq : Z.seq (E.var 1) [.ins 1 [], .val d, .no] = .ok (r.map ofQ) := by rcases hd with rfl | rfl <;> rfl
  have hc : E.comp [2] (Z.seq (E.var 1)) (S.tgt 2) T.yes (E.ite (T.tst (E.op1 (isiR isi_int) (E.var 2))) (E.app (objR 0 f_Ratio_init_1) (E.cons (E.var 2) E.nil)) (E.var 2)) [.ins 1 [], .val d, .no] = .ok (r.map ofQ) :=
    comp_map ofQ hq rfl (by omega) fun x _ => ⟨[.ins 1 [], .val d, .val (ofQ x)], rfl, rfl, rfl⟩
  have hb : b_Poly_init [.ins 1 [], .val d, .no] = .next [.ins 1 [.tup ((trim r).map ofQ)], .val d, .no] := by
    unfold b_Poly_init
    have ha : E.app f_trimmed (E.cons (E.lst (E.comp [2] (Z.seq (E.var 1)) (S.tgt 2) T.yes (E.ite (T.tst (E.op1 (isiR isi_int) (E.var 2))) (E.app (objR 0 f_Ratio_init_1) (E.cons (E.var 2) E.nil)) (E.var 2)))) E.nil) [.ins 1 [], .val d, .no] = .ok (.tup ((trim r).map ofQ)) :=
      app_ok (ds := [.lst (r.map ofQ)]) (by
        revert hc
        generalize E.comp _ _ _ _ _ = F
        intro hc
        unfold E.cons E.lst
        rw [hc]
        rfl) trimmed_q
    unfold S.fld
    rw [ha]
    rfl
  unfold f_Poly_init_1 runI
  rw [if_pos (show [d].length = 1 from rfl), show enter (3 - 1) [d] = [.val d, .no] from rfl, hb]
  rfl
def ofP (r : List Rat) : D := .obj 1 [.tup (r.map ofQ)]
theorem Poly_is_zero_q (r : List Rat) : f_Poly_is_zero [ofP r] = .ok (.bl (decide (r = []))) := by
  cases r <;> rfl
theorem Poly_last_0 : f_Poly_last [ofP []] = .exc ⟨21, []⟩ := rfl
theorem Poly_last_q (r : List Rat) (l : Rat) : f_Poly_last [ofP (r ++ [l])] = .ok (ofQ l) := by
  have hm : Z.seq (E.fld 1 0 (E.var 0)) [.val (ofP (r ++ [l]))] = .ok ((r ++ [l]).map ofQ) := rfl
  have hn : E.len (Z.seq (E.fld 1 0 (E.var 0))) [.val (ofP (r ++ [l]))] = .ok (nD (r.length + 1)) := len_ok hm (by rw [List.length_map, List.length_append]; rfl)
  refine runD_ret [.val (ofP (r ++ [l]))] rfl rfl ?_
  unfold b_Poly_last
  refine (seq_next (ρ' := [.val (ofP (r ++ [l]))]) (by rw [ite_f (tst_ok (op2_ok hn rfl (show eqS (nD (r.length + 1)) (.int 0) = .ok (.bl false) from rfl)))]; rfl)).trans (ret_ok (ix_ok hm (op2_ok hn rfl (subI_1 _)) ?_))
  rw [itemQ (by rw [List.length_append]; simp)]
  rw [List.getD_eq_getElem?_getD, List.getElem?_append_right (Nat.le_refl _)]
  simp
set_option Elab.async false
set_option linter.all false
set_option maxRecDepth 100000
set_option maxHeartbeats 1000000
-- Poly: product
open PySem L2
theorem adds_take {f : Rat} {k : Nat} {p d : List Rat} {i : Nat} (hi : i < d.length) : adds f k p (d.take (i + 1)) = (adds f k p (d.take i)).set (k + i) ((adds f k p (d.take i)).getD (k + i) 0 + f * d.getD i 0) := by
  have e : d.take (i + 1) = d.take i ++ [d.getD i 0] := by
    rw [List.take_succ_eq_append_getElem hi, List.getD_eq_getElem?_getD, List.getElem?_eq_getElem hi]
    rfl
  have l : (d.take i).length = i := by rw [List.length_take]; omega
  rw [e, adds_snoc, l]
theorem row_enum (d : List Rat) : d.map ofQ = (List.range d.length).map fun k => ofQ (d.getD k 0) := by
  refine List.ext_getElem (by rw [List.length_map, List.length_map, List.length_range]) fun i h1 h2 => ?_
  rw [List.length_map] at h1
  rw [List.getElem_map, List.getElem_map, List.getElem_range, List.getD_eq_getElem?_getD, List.getElem?_eq_getElem h1]
  rfl
theorem set_same {p : List Rat} {i : Nat} {c : Rat} (h : c = p.getD i 0) : p.set i c = p := by
  subst h
  refine List.ext_getElem (by rw [List.length_set]) fun j h1 h2 => ?_
  rw [List.getElem_set]
  split
  · rename_i e
    subst e
    rw [List.getD_eq_getElem?_getD, List.getElem?_eq_getElem h2]
    rfl
  · rfl
theorem range_at {n i k : Nat} (h : (List.range n)[i]? = some k) : k = i ∧ i < n := by
  obtain ⟨h1, h2⟩ := List.getElem?_eq_some_iff.mp h
  rw [List.getElem_range] at h2
  rw [List.length_range] at h1
  exact ⟨h2.symm, h1⟩
abbrev mulB : Env → Out := S.ite (T.tst (E.op2 neS (E.fld 0 0 (E.var 7)) (E.c (.int 0)))) (S.setAt 2 (E.op2 addI (E.var 4) (E.var 6)) (E.own2 0 f_Ratio_add (E.ix (Z.own 2) (E.op2 addI (E.var 4) (E.var 6))) (E.own2 0 f_Ratio_mul (E.var 5) (E.var 7)))) S.skip
theorem mul_inner {n m e j : Nat} {f : Rat} {o d : List Rat} (x0 : D) (c3 c6 c7 : Cell) (hk : j + d.length ≤ o.length) (hf : Qb m f) (ho : QL e o) (hd : QL n d) (hB : e + m + m + n + n + 1 ≤ 100000000) :
    ∃ c6' c7' : Cell, S.forE (Z.enum (Z.seq (E.fld 1 0 (E.var 1)))) (S.gtup 2 (S.gcons (S.tgt 6) (S.gcons (S.tgt 7) S.gnil))) mulB [.val x0, .val (ofP d), .own (o.map ofQ), c3, .val (nD j), .val (ofQ f), c6, c7] = .next [.val x0, .val (ofP d), .own ((adds f j o d).map ofQ), c3, .val (nD j), .val (ofQ f), c6', c7'] := by
  obtain ⟨ρ', e1, c6', c7', e2⟩ := forE_ix (List.range d.length) (enc := fun k => D.tup [nD k, ofQ (d.getD k 0)]) (g := S.gtup 2 (S.gcons (S.tgt 6) (S.gcons (S.tgt 7) S.gnil))) (b := mulB) (fun i ρ => ∃ c6 c7 : Cell, ρ = [.val x0, .val (ofP d), .own ((adds f j o (d.take i)).map ofQ), c3, .val (nD j), .val (ofQ f), c6, c7]) (it := Z.enum (Z.seq (E.fld 1 0 (E.var 1)))) (ρ := [.val x0, .val (ofP d), .own (o.map ofQ), c3, .val (nD j), .val (ofQ f), c6, c7])
    (enum_ok (α := Nat) (show Z.seq (E.fld 1 0 (E.var 1)) _ = Res.ok (List.map (fun k => ofQ (d.getD k 0)) _) by rw [← row_enum]; rfl)) ⟨c6, c7, by rw [List.take_zero]; rfl⟩ fun i k ρ hj ⟨c6, c7, e⟩ => by
      subst e
      obtain ⟨rfl, hi⟩ := range_at hj
      rw [adds_take hi]
      have lo : (adds f j o (d.take k)).length = o.length := adds_len _ _ _ _
      have hq : QL (e + m + n + 1) (adds f j o (d.take k)) := by
        by_cases h1 : 1 ≤ n
        · exact ho.adds hf (hd.take h1 k) (by rw [List.length_take]; omega)
        · have := (hd 0).den
          have h2 := Rat.den_pos (self := d.getD 0 0)
          rw [show n = 0 by omega] at this
          omega
      generalize adds f j o (d.take k) = o' at *
      refine ⟨[.val x0, .val (ofP d), .own (o'.map ofQ), c3, .val (nD j), .val (ofQ f), .val (nD k), .val (ofQ (d.getD k 0))], rfl, .inl ?_⟩
      have tc : T.tst (E.op2 neS (E.fld 0 0 (E.var 7)) (E.c (.int 0))) [.val x0, .val (ofP d), .own (o'.map ofQ), c3, .val (nD j), .val (ofQ f), .val (nD k), .val (ofQ (d.getD k 0))] = .ok (!decide (d.getD k 0 = 0)) := nz_ok rfl
      by_cases z : d.getD k 0 = 0
      · rw [decide_eq_true z] at tc
        refine ⟨_, ite_f tc, .val (nD k), .val (ofQ (d.getD k 0)), ?_⟩
        rw [set_same (by rw [z]; grind)]
      · rw [decide_eq_false z] at tc
        have ha := Ratio_add_q (hq (j + k)) (hf.mul (hd k)) (by omega)
        have hm := Ratio_mul_q hf (hd k) (by omega)
        refine ⟨_, (ite_t tc).trans (setAt_next rfl (own2_ok (ix_ok (q := Z.own 2) rfl (op2_ok rfl rfl (addI_nn _ _)) (itemQ (by omega))) (own2_ok rfl rfl hm) ha) (op2_ok rfl rfl (addI_nn _ _)) (ixN_n (by rw [List.length_map]; omega))), .val (nD k), .val (ofQ (d.getD k 0)), ?_⟩
        rw [set_map ofQ]
        rfl
  rw [List.length_range, List.take_length] at e2
  exact ⟨c6', c7', e2 ▸ e1⟩
theorem Poly_mul_q {n m : Nat} {p q : List Rat} (hp : QL n p) (hq : QL m q) (hlp : p.length ≤ 400) (hlq : q.length ≤ 400) (hB : p.length * (n + m + 1) + 2 * n + 2 * m ≤ 90000000) : f_Poly_mul [ofP p, ofP q] = .ok (ofP (pm p q)) := by
  refine runD_ret [.val (ofP p), .val (ofP q), .no, .no, .no, .no, .no, .no] rfl rfl ?_
  unfold b_Poly_mul
  refine (seq_next (ρ' := [.val (ofP p), .val (ofP q), .own ((zerov (p.length + q.length)).map ofQ), .no, .no, .no, .no, .no]) (setF_ok (zeros_q (op2_ok (len_ok (n := p.length) rfl (List.length_map _)) (len_ok (n := q.length) rfl (List.length_map _)) (addI_nn _ _)) rfl (by simp) (by omega)))).trans ?_
  generalize hR : S.freeze 2 _ = G2
  generalize hG : S.seq (S.ite _ _ _) _ = G1
  have ez : ∀ x, evl (zerov (p.length + q.length)) x = 0 := fun x => ev_Zs (fun a ha => by unfold zerov at ha; obtain ⟨k, _, e⟩ := List.mem_map.mp ha; exact e.symm) x
  obtain ⟨ρ', e1, o, c3, c4, c5, c6, c7, lo, so, eo, e2⟩ := forE_ix (List.range p.length) (enc := fun k => D.tup [nD k, ofQ (p.getD k 0)]) (g := S.gtup 2 (S.gcons (S.tgt 4) (S.gcons (S.tgt 5) S.gnil))) (b := G1) (fun i ρ => ∃ (o : List Rat) (c3 c4 c5 c6 c7 : Cell), o.length = p.length + q.length ∧ QL (i * (n + m + 1) + 1) o ∧ (∀ x, evl o x = evl (p.take i) x * evl q x) ∧ ρ = [.val (ofP p), .val (ofP q), .own (o.map ofQ), c3, c4, c5, c6, c7]) (it := Z.enum (Z.seq (E.fld 1 0 (E.var 0)))) (ρ := [.val (ofP p), .val (ofP q), .own ((zerov (p.length + q.length)).map ofQ), .no, .no, .no, .no, .no])
    (enum_ok (α := Nat) (show Z.seq (E.fld 1 0 (E.var 0)) _ = Res.ok (List.map (fun k => ofQ (p.getD k 0)) _) by rw [← row_enum]; rfl))
    ⟨_, .no, .no, .no, .no, .no, zerov_len _, .of (by omega) (zerov_siz (by omega)), fun x => by rw [ez, List.take_zero, ev_nil]; grind, rfl⟩ fun i k ρ hj ⟨o, c3, c4, c5, c6, c7, lo, so, eo, e⟩ => by
      subst e
      subst hG
      obtain ⟨rfl, hi⟩ := range_at hj
      refine ⟨[.val (ofP p), .val (ofP q), .own (o.map ofQ), c3, .val (nD k), .val (ofQ (p.getD k 0)), c6, c7], rfl, ?_⟩
      have tc : T.tst (E.op2 eqS (E.fld 0 0 (E.var 5)) (E.c (.int 0))) [.val (ofP p), .val (ofP q), .own (o.map ofQ), c3, .val (nD k), .val (ofQ (p.getD k 0)), c6, c7] = .ok (decide (p.getD k 0 = 0)) := tst_ok (op2_ok (fld_ok rfl) rfl (eqS_num _))
      have hm : (k + 1) * (n + m + 1) ≤ p.length * (n + m + 1) := Nat.mul_le_mul_right _ (by omega)
      rw [Nat.succ_mul] at hm
      by_cases z : p.getD k 0 = 0
      · rw [decide_eq_true z] at tc
        refine .inr ⟨_, seq_cnt (ite_t tc), o, _, _, _, _, _, lo, so.mono (by rw [Nat.succ_mul]; omega), fun x => ?_, rfl⟩
        rw [eo, ev_take_succ hi, z]
        grind
      · rw [decide_eq_false z] at tc
        obtain ⟨c6', c7', h⟩ := mul_inner (ofP p) c3 c6 c7 (j := k) (by omega) (hp k) so hq (by omega)
        refine .inl ⟨_, (seq_next (ite_f tc)).trans h, _, _, _, _, _, _, by rw [adds_len, lo], (so.adds (hp k) hq (by omega)).mono (by rw [Nat.succ_mul]; omega), fun x => ?_, rfl⟩
        rw [ev_adds _ _ _ _ _ (by omega), eo, ev_take_succ hi]
        grind
  rw [List.length_range] at so eo
  refine (seq_next (e1.trans (by rw [e2]))).trans ?_
  subst hR
  have hi := Poly_init_q (r := o) (d := .lst (o.map ofQ)) (.inl rfl) (by omega)
  rw [pm_eq (p := p) (q := q) (fun x => by rw [eo, List.take_length])] at hi
  show S.ret (E.app (objR 1 f_Poly_init_1) (E.cons (E.var 2) E.nil)) [.val (ofP p), .val (ofP q), .val (.lst (o.map ofQ)), c3, c4, c5, c6, c7] = _
  refine ret_ok (app_ok rfl ?_)
  unfold objR
  rw [hi]
  rfl
set_option Elab.async false
set_option linter.all false
set_option maxRecDepth 100000
set_option maxHeartbeats 1000000
-- Poly: division
open PySem L2
abbrev divB : Env → Out := S.ite (T.tst (E.op2 neS (E.fld 0 0 (E.var 10)) (E.c (.int 0)))) (S.setAt 3 (E.op2 addI (E.var 7) (E.var 9)) (E.own2 0 f_Ratio_sub (E.ix (Z.own 3) (E.op2 addI (E.var 7) (E.var 9))) (E.own2 0 f_Ratio_mul (E.var 8) (E.var 10)))) S.skip
theorem div_inner {n m e j : Nat} {f : Rat} {o d : List Rat} (x0 : D) (c2 c4 c5 c6 c9 c10 : Cell) (hk : j + d.length ≤ o.length) (hf : Qb m f) (ho : QL e o) (hd : QL n d) (hB : e + m + m + n + n + 1 ≤ 100000000) :
    ∃ c9' c10' : Cell, S.forE (Z.enum (Z.seq (E.fld 1 0 (E.var 1)))) (S.gtup 2 (S.gcons (S.tgt 9) (S.gcons (S.tgt 10) S.gnil))) divB [.val x0, .val (ofP d), c2, .own (o.map ofQ), c4, c5, c6, .val (nD j), .val (ofQ f), c9, c10] = .next [.val x0, .val (ofP d), c2, .own ((adds (-f) j o d).map ofQ), c4, c5, c6, .val (nD j), .val (ofQ f), c9', c10'] := by
  obtain ⟨ρ', e1, c6', c7', e2⟩ := forE_ix (List.range d.length) (enc := fun k => D.tup [nD k, ofQ (d.getD k 0)]) (g := S.gtup 2 (S.gcons (S.tgt 9) (S.gcons (S.tgt 10) S.gnil))) (b := divB) (fun i ρ => ∃ c9 c10 : Cell, ρ = [.val x0, .val (ofP d), c2, .own ((adds (-f) j o (d.take i)).map ofQ), c4, c5, c6, .val (nD j), .val (ofQ f), c9, c10]) (it := Z.enum (Z.seq (E.fld 1 0 (E.var 1)))) (ρ := [.val x0, .val (ofP d), c2, .own (o.map ofQ), c4, c5, c6, .val (nD j), .val (ofQ f), c9, c10])
    (enum_ok (α := Nat) (show Z.seq (E.fld 1 0 (E.var 1)) _ = Res.ok (List.map (fun k => ofQ (d.getD k 0)) _) by rw [← row_enum]; rfl)) ⟨c9, c10, by rw [List.take_zero]; rfl⟩ fun i k ρ hj ⟨c9, c10, e⟩ => by
      subst e
      obtain ⟨rfl, hi⟩ := range_at hj
      rw [adds_take hi]
      have lo : (adds (-f) j o (d.take k)).length = o.length := adds_len _ _ _ _
      have h1 : 1 ≤ n := by
        by_cases h1 : 1 ≤ n
        · exact h1
        · have := (hd 0).den
          have h2 := Rat.den_pos (self := d.getD 0 0)
          rw [show n = 0 by omega] at this
          omega
      have hq : QL (e + m + n + 1) (adds (-f) j o (d.take k)) := ho.adds hf.neg (hd.take h1 k) (by rw [List.length_take]; omega)
      generalize adds (-f) j o (d.take k) = o' at *
      refine ⟨[.val x0, .val (ofP d), c2, .own (o'.map ofQ), c4, c5, c6, .val (nD j), .val (ofQ f), .val (nD k), .val (ofQ (d.getD k 0))], rfl, .inl ?_⟩
      have tc : T.tst (E.op2 neS (E.fld 0 0 (E.var 10)) (E.c (.int 0))) [.val x0, .val (ofP d), c2, .own (o'.map ofQ), c4, c5, c6, .val (nD j), .val (ofQ f), .val (nD k), .val (ofQ (d.getD k 0))] = .ok (!decide (d.getD k 0 = 0)) := nz_ok rfl
      by_cases z : d.getD k 0 = 0
      · rw [decide_eq_true z] at tc
        refine ⟨_, ite_f tc, .val (nD k), .val (ofQ (d.getD k 0)), ?_⟩
        rw [set_same (by rw [z]; grind)]
      · rw [decide_eq_false z] at tc
        have ha := Ratio_sub_q (hq (j + k)) (hf.mul (hd k)) (by omega)
        rw [show o'.getD (j + k) 0 - f * d.getD k 0 = o'.getD (j + k) 0 + -f * d.getD k 0 by grind] at ha
        have hm := Ratio_mul_q hf (hd k) (by omega)
        refine ⟨_, (ite_t tc).trans (setAt_next rfl (own2_ok (ix_ok (q := Z.own 3) rfl (op2_ok rfl rfl (addI_nn _ _)) (itemQ (by omega))) (own2_ok rfl rfl hm) ha) (op2_ok rfl rfl (addI_nn _ _)) (ixN_n (by rw [List.length_map]; omega))), .val (nD k), .val (ofQ (d.getD k 0)), ?_⟩
        rw [set_map ofQ]
        rfl
  rw [List.length_range, List.take_length] at e2
  exact ⟨c6', c7', e2 ▸ e1⟩
theorem maxI_n (i : Int) : maxI (.int 0) (.int i) = .ok (nD i.toNat) := by
  unfold maxI
  dsimp only
  show Res.ok (D.int _) = Res.ok (D.int _)
  congr 2
  split <;> omega
theorem rngDown_ok {f g h : Env → Res D} {ρ : Env} {i : Int} (hf : f ρ = .ok (.int i)) (hg : g ρ = .ok (.int (-1))) (hh : h ρ = .ok (.int (-1))) (h1 : -1000000 < i) (h2 : i < 1000000) : E.rngDown f g h ρ = .ok (rngN i (i + 1).toNat) := by
  unfold E.rngDown
  rw [hf, hg, hh]
  simp only [Res.bind_ok]
  rw [if_pos ⟨trivial, by omega, by omega, by omega, by omega⟩, Int.sub_neg]
theorem rngDown_n {f g h : Env → Res D} {ρ : Env} {n : Nat} (hf : f ρ = .ok (.int ((n : Int) - 1))) (hg : g ρ = .ok (.int (-1))) (hh : h ρ = .ok (.int (-1))) (h2 : n < 1000000) : E.rngDown f g h ρ = .ok ((List.range n).map fun (i : Nat) => .int ((n : Int) - 1 - (i : Int))) := by
  rw [rngDown_ok hf hg hh (by omega) (by omega), show ((n : Int) - 1 + 1).toNat = n by omega]
  rfl
theorem zs_set {s : List Rat} {K : Nat} (hK : K < s.length) : (zerov (K + 1) ++ s.drop (K + 1)).set K (s.getD K 0) = zerov K ++ s.drop K := by
  have e : zerov (K + 1) = zerov K ++ [0] := by unfold zerov; rw [List.range_succ, List.map_append]; rfl
  have l : (zerov K).length = K := zerov_len K
  have d : s.drop K = s.getD K 0 :: s.drop (K + 1) := by
    rw [List.drop_eq_getElem_cons hK, List.getD_eq_getElem?_getD, List.getElem?_eq_getElem hK]
    rfl
  rw [e, d, List.append_assoc, List.set_append_right _ _ (by omega), l, Nat.sub_self]
  rfl
theorem adds_0 {f : Rat} (hf : f = 0) : ∀ (d : List Rat) (k : Nat) (p : List Rat), adds f k p d = p
  | [], _, _ => rfl
  | c :: d, k, p => by rw [adds, set_same (by rw [hf]; grind), adds_0 hf d]
theorem Poly_divided_q {e n : Nat} {p d r s : List Rat} (hn : 1 ≤ n) (hp : Tr p) (hs : Tr s) (hd : Tr d) (hdn : d ≠ []) (hr : Tr r) (hl : r.length < d.length) (h : ∀ x, evl p x = evl s x * evl d x + evl r x) (qp : QL e p) (qs : QL n s) (qd : QL n d) (lp : p.length ≤ 400) (ls : d.length ≤ 400) (hB : e + s.length * (2 * n + 1) + 4 * n ≤ 90000000) :
    f_Poly_divided [ofP p, ofP d] = .ok (.tup [ofP s, ofP r]) := by
  obtain ⟨S0, hsl⟩ := DivSt.start hp hs hd hdn hr hl h
  obtain ⟨d', m, ed, hm⟩ := hd.split hdn
  have ld : d.length = d'.length + 1 := by rw [ed]; exact List.length_append
  have qm : Qb n m := qd.mem m (by rw [ed]; simp)
  refine runD_ret [.val (ofP p), .val (ofP d), .no, .no, .no, .no, .no, .no, .no, .no, .no] rfl rfl ?_
  unfold b_Poly_divided
  refine (seq_next (ρ' := [.val (ofP p), .val (ofP d), .val (ofQ m⁻¹), .no, .no, .no, .no, .no, .no, .no, .no]) (set_ok (meth_ok (meth_ok rfl nil_ok (show f_Poly_last (ofP d :: []) = _ by rw [ed]; exact Poly_last_q _ _)) nil_ok (Ratio_inverse_q hm)))).trans ?_
  refine (seq_next (ρ' := [.val (ofP p), .val (ofP d), .val (ofQ m⁻¹), .own (p.map ofQ), .no, .no, .no, .no, .no, .no, .no]) (setF_ok (show Z.seq (E.fld 1 0 (E.var 0)) _ = _ from rfl))).trans ?_
  refine (seq_next (ρ' := [.val (ofP p), .val (ofP d), .val (ofQ m⁻¹), .own (p.map ofQ), .val (nD s.length), .no, .no, .no, .no, .no, .no]) (set_ok (op2_ok rfl (op2_ok (op2_ok (len_ok (n := p.length) rfl (List.length_map _)) (len_ok (n := d.length) rfl (List.length_map _)) (subI_i _ _)) rfl (addI_i _ _)) (by rw [maxI_n, show ((p.length : Int) - (d.length : Int) + 1).toNat = s.length by omega])))).trans ?_
  refine (seq_next (ρ' := [.val (ofP p), .val (ofP d), .val (ofQ m⁻¹), .own (p.map ofQ), .val (nD s.length), .own ((zerov s.length).map ofQ), .no, .no, .no, .no, .no]) (setF_ok (zeros_q rfl rfl (by simp) (by omega)))).trans ?_
  generalize hR : S.freeze 5 _ = G2
  generalize hG : S.seq (S.set 8 _) _ = G1
  obtain ⟨ρ', e1, o, c7, c8, c9, c10, lo, so, st, e2⟩ := forE_ix (List.range s.length) (enc := fun (i : Nat) => .int ((s.length : Int) - 1 - (i : Int))) (g := S.tgt 7) (b := G1) (fun i ρ => ∃ (o : List Rat) (c7 c8 c9 c10 : Cell), o.length = p.length ∧ QL (e + i * (2 * n + 1)) o ∧ DivSt d r (s.take (s.length - i)) o ∧ ρ = [.val (ofP p), .val (ofP d), .val (ofQ m⁻¹), .own (o.map ofQ), .val (nD s.length), .own ((zerov (s.length - i) ++ s.drop (s.length - i)).map ofQ), .no, c7, c8, c9, c10]) (it := E.rngDown (E.op2 subI (E.var 4) (E.c (.int 1))) (E.op1 negI (E.c (.int 1))) (E.op1 negI (E.c (.int 1)))) (ρ := [.val (ofP p), .val (ofP d), .val (ofQ m⁻¹), .own (p.map ofQ), .val (nD s.length), .own ((zerov s.length).map ofQ), .no, .no, .no, .no, .no])
    (rngDown_n (op2_ok rfl rfl (subI_i _ _)) rfl rfl (by omega))
    ⟨p, .no, .no, .no, .no, rfl, qp.mono (by omega), by rw [Nat.sub_zero, List.take_length]; exact S0, by rw [Nat.sub_zero, List.drop_length, List.append_nil]⟩ fun i i' ρ hj ⟨o, c7, c8, c9, c10, lo, so, st, e⟩ => by
      subst e
      subst hG
      obtain ⟨rfl, hi⟩ := range_at hj
      obtain ⟨K, hK⟩ : ∃ K, s.length - i' = K + 1 := ⟨s.length - i' - 1, by omega⟩
      have hK' : s.length - (i' + 1) = K := by omega
      have hsm : (i' + 1) * (2 * n + 1) = i' * (2 * n + 1) + (2 * n + 1) := Nat.succ_mul _ _
      have eK : (s.length : Int) - 1 - (i' : Int) = (K : Int) := by omega
      rw [hK] at st ⊢
      rw [hK', eK]
      have es : s.take (K + 1) = s.take K ++ [s.getD K 0] := by
        rw [List.take_succ_eq_append_getElem (by omega), List.getD_eq_getElem?_getD, List.getElem?_eq_getElem (by omega)]
        rfl
      have lK : (s.take K).length = K := by rw [List.length_take]; omega
      rw [es, ed] at st
      obtain ⟨t1, t2, t3⟩ := st.step (by omega) hm
      rw [← ed, lK] at t1 t2 t3
      have qc : Qb n (s.getD K 0) := qs K
      have hmul := Ratio_mul_q (so (K + d.length - 1)) (qm.inv hn) (by
        have : (i' + 1) * (2 * n + 1) ≤ s.length * (2 * n + 1) := Nat.mul_le_mul_right _ (by omega)
        rw [hsm] at this
        omega)
      rw [t1] at hmul
      refine ⟨[.val (ofP p), .val (ofP d), .val (ofQ m⁻¹), .own (o.map ofQ), .val (nD s.length), .own ((zerov (K + 1) ++ s.drop (K + 1)).map ofQ), .no, .val (nD K), c8, c9, c10], rfl, ?_⟩
      have a1 : S.set 8 (E.own2 0 f_Ratio_mul (E.ix (Z.own 3) (E.op2 subI (E.op2 addI (E.var 7) (E.len (Z.seq (E.fld 1 0 (E.var 1))))) (E.c (.int 1)))) (E.var 2)) [.val (ofP p), .val (ofP d), .val (ofQ m⁻¹), .own (o.map ofQ), .val (nD s.length), .own ((zerov (K + 1) ++ s.drop (K + 1)).map ofQ), .no, .val (nD K), c8, c9, c10] = .next [.val (ofP p), .val (ofP d), .val (ofQ m⁻¹), .own (o.map ofQ), .val (nD s.length), .own ((zerov (K + 1) ++ s.drop (K + 1)).map ofQ), .no, .val (nD K), .val (ofQ (s.getD K 0)), c9, c10] :=
        set_ok (own2_ok (ix_ok (q := Z.own 3) rfl (op2_ok (op2_ok rfl (len_ok (n := d.length) rfl (List.length_map _)) (addI_nn _ _)) rfl (by rw [show K + d.length = (K + d.length - 1) + 1 by omega]; exact subI_1 _)) (itemQ (by omega))) rfl hmul)
      have a2 : S.setAt 5 (E.var 7) (E.var 8) [.val (ofP p), .val (ofP d), .val (ofQ m⁻¹), .own (o.map ofQ), .val (nD s.length), .own ((zerov (K + 1) ++ s.drop (K + 1)).map ofQ), .no, .val (nD K), .val (ofQ (s.getD K 0)), c9, c10] = .next [.val (ofP p), .val (ofP d), .val (ofQ m⁻¹), .own (o.map ofQ), .val (nD s.length), .own ((zerov K ++ s.drop K).map ofQ), .no, .val (nD K), .val (ofQ (s.getD K 0)), c9, c10] := by
        rw [setAt_next (i := 5) (fk := E.var 7) (fv := E.var 8) rfl rfl rfl (ixN_n (i := K) (by rw [List.length_map, List.length_append, zerov_len]; omega)), set_map ofQ, zs_set (by omega)]
        rfl
      have tc : T.tst (E.op2 eqS (E.fld 0 0 (E.var 8)) (E.c (.int 0))) [.val (ofP p), .val (ofP d), .val (ofQ m⁻¹), .own (o.map ofQ), .val (nD s.length), .own ((zerov K ++ s.drop K).map ofQ), .no, .val (nD K), .val (ofQ (s.getD K 0)), c9, c10] = .ok (decide (s.getD K 0 = 0)) := tst_ok (op2_ok (fld_ok rfl) rfl (eqS_num _))
      by_cases z : s.getD K 0 = 0
      · rw [adds_0 (by rw [z]; rfl)] at t3
        rw [decide_eq_true z] at tc
        exact .inr ⟨_, (seq_next a1).trans ((seq_next a2).trans (seq_cnt (ite_t tc))), o, _, _, _, _, lo, so.mono (by rw [hsm]; omega), t3, rfl⟩
      · rw [decide_eq_false z] at tc
        obtain ⟨c9', c10', hin⟩ := div_inner (ofP p) (.val (ofQ m⁻¹)) (.val (nD s.length)) (.own ((zerov K ++ s.drop K).map ofQ)) .no c9 c10 (j := K) t2 qc so qd (by
          have : (i' + 1) * (2 * n + 1) ≤ s.length * (2 * n + 1) := Nat.mul_le_mul_right _ (by omega)
          rw [hsm] at this
          omega)
        exact .inl ⟨_, (seq_next a1).trans ((seq_next a2).trans ((seq_next (ite_f tc)).trans hin)), _, _, _, _, _, by rw [adds_len, lo], (so.adds qc.neg qd t2).mono (by rw [hsm]; omega), t3, rfl⟩
  rw [List.length_range, Nat.sub_self, List.take_zero] at st
  rw [List.length_range, Nat.sub_self, List.drop_zero] at e2
  refine (seq_next (e1.trans (by rw [e2]))).trans ?_
  subst hR
  have hi1 := Poly_init_q (r := s) (d := .lst (s.map ofQ)) (.inl rfl) (by omega)
  have hi2 := Poly_init_q (r := o) (d := .lst (o.map ofQ)) (.inl rfl) (by omega)
  rw [trim_eq hs fun _ => rfl] at hi1
  rw [st.final hr] at hi2
  show S.ret (E.tupl (E.cons (E.app (objR 1 f_Poly_init_1) (E.cons (E.var 5) E.nil)) (E.cons (E.app (objR 1 f_Poly_init_1) (E.cons (E.var 3) E.nil)) E.nil))) [.val (ofP p), .val (ofP d), .val (ofQ m⁻¹), .val (.lst (o.map ofQ)), .val (nD s.length), .val (.lst (s.map ofQ)), .no, c7, c8, c9, c10] = _
  refine ret_ok (tupl_ok (cons_ok (app_ok rfl ?_) (cons_ok (app_ok rfl ?_) nil_ok)))
  · unfold objR
    rw [hi1]
    rfl
  · unfold objR
    rw [hi2]
    rfl
theorem Poly_divided_0 {p : List Rat} : f_Poly_divided [ofP p, ofP []] = .exc ⟨21, []⟩ := rfl
theorem Poly_floordiv_0 {p : List Rat} : f_Poly_floordiv [ofP p, ofP []] = .exc ⟨21, []⟩ := rfl
theorem Poly_mod_0 {p : List Rat} : f_Poly_mod [ofP p, ofP []] = .exc ⟨21, []⟩ := rfl
theorem Poly_floordiv_of {p d s r : List Rat} (h : f_Poly_divided [ofP p, ofP d] = .ok (.tup [ofP s, ofP r])) : f_Poly_floordiv [ofP p, ofP d] = .ok (ofP s) :=
  runD_ret [.val (ofP p), .val (ofP d)] rfl rfl (ret_ok (ix_ok (i := 0) (seq_of (.inl (meth_ok rfl rfl h))) rfl (atI_0 _ _)))
theorem Poly_mod_of {p d s r : List Rat} (h : f_Poly_divided [ofP p, ofP d] = .ok (.tup [ofP s, ofP r])) : f_Poly_mod [ofP p, ofP d] = .ok (ofP r) :=
  runD_ret [.val (ofP p), .val (ofP d)] rfl rfl (ret_ok (ix_ok (i := 1) (seq_of (.inl (meth_ok rfl rfl h))) rfl (atI_1 _ _ _)))
theorem Poly_divides_0 {p : List Rat} : f_Poly_divides [ofP [], ofP p] = .ok (.bl (decide (p = []))) := by cases p <;> rfl
theorem Poly_divides_of {p d s r : List Rat} (hd : d ≠ []) (h : f_Poly_divided [ofP p, ofP d] = .ok (.tup [ofP s, ofP r])) : f_Poly_divides [ofP d, ofP p] = .ok (.bl (decide (r = []))) := by
  refine runD_ret [.val (ofP d), .val (ofP p)] rfl rfl ?_
  unfold b_Poly_divides
  cases d with
  | nil => exact absurd rfl hd
  | cons a d =>
    refine (seq_next (ρ' := [.val (ofP (a :: d)), .val (ofP p)]) ?_).trans (ret_ok (meth_ok (ix_ok (i := 1) (seq_of (.inl (meth_ok rfl rfl h))) rfl (atI_1 _ _ _)) nil_ok (Poly_is_zero_q r)))
    rw [ite_f (tst_ok (op2_ok (len_ok (n := d.length + 1) rfl (by rw [List.length_map]; rfl)) rfl (show eqS (nD (d.length + 1)) (.int 0) = .ok (.bl false) from rfl)))]
    rfl
-- turns of the multiplicity
inductive Mu (d : List Rat) : Nat → List Rat → Prop
  | stop {q s r : List Rat} : f_Poly_divided [ofP q, ofP d] = .ok (.tup [ofP s, ofP r]) → r ≠ [] → Mu d 0 q
  | step {q s : List Rat} {k : Nat} : f_Poly_divided [ofP q, ofP d] = .ok (.tup [ofP s, ofP []]) → s.length < q.length → Mu d k s → Mu d (k + 1) q
abbrev muC : Env → Res Bool := T.tst (E.meth 1 f_Poly_is_zero (E.var 4) E.nil)
abbrev muB : Env → Out := S.seq (S.set 2 (E.op2 addI (E.var 2) (E.c (.int 1)))) (S.asg (S.gtup 2 (S.gcons (S.tgt 3) (S.gcons (S.tgt 4) S.gnil))) (E.meth 1 f_Poly_divided (E.var 3) (E.cons (E.var 0) E.nil)))
theorem mu_asg {i : Nat} {d q s r : List Rat} {c1 c2 c3 c4 : Cell} (h : f_Poly_divided [ofP q, ofP d] = .ok (.tup [ofP s, ofP r])) (hi : i < 5) (hq : E.var i [.val (ofP d), c1, c2, c3, c4] = .ok (ofP q)) : S.asg (S.gtup 2 (S.gcons (S.tgt 3) (S.gcons (S.tgt 4) S.gnil))) (E.meth 1 f_Poly_divided (E.var i) (E.cons (E.var 0) E.nil)) [.val (ofP d), c1, c2, c3, c4] = .next [.val (ofP d), c1, c2, .val (ofP s), .val (ofP r)] := by
  have e : E.meth 1 f_Poly_divided (E.var i) (E.cons (E.var 0) E.nil) [.val (ofP d), c1, c2, c3, c4] = .ok (.tup [ofP s, ofP r]) := meth_ok hq rfl h
  unfold S.asg S.lift
  rw [e]
  rfl
theorem mu_c {d q r : List Rat} {c1 c2 c3 : Cell} : muC [.val (ofP d), c1, c2, c3, .val (ofP r)] = .ok (decide (r = [])) := tst_ok (meth_ok rfl nil_ok (Poly_is_zero_q r))
theorem whileN_t {c : Env → Res Bool} {b : Env → Out} {n : Nat} {ρ ρ' : Env} (hc : c ρ = .ok true) (hb : b ρ = .next ρ') : S.whileN c b (n + 1) ρ = S.whileN c b n ρ' := by
  rw [S.whileN, hc]
  show (match b ρ with | .next ρ' => S.whileN c b n ρ' | .cnt ρ' => S.whileN c b n ρ' | .brk ρ' => .next ρ' | o => o) = _
  rw [hb]
theorem whileN_f {c : Env → Res Bool} {b : Env → Out} {n : Nat} {ρ : Env} (hc : c ρ = .ok false) : S.whileN c b (n + 1) ρ = .next ρ := by
  rw [S.whileN, hc]
  rfl
theorem mu_loop {d : List Rat} {c1 : Cell} {k : Nat} {q : List Rat} (h : Mu d k q) : ∀ (n c : Nat), q.length + 2 ≤ n → ∃ (s r : List Rat), S.whileN muC muB n [.val (ofP d), c1, .val (nD c), .val (ofP q), .val (ofP [])] = .next [.val (ofP d), c1, .val (nD (c + 1 + k)), .val (ofP s), .val (ofP r)] := by
  induction h with
  | @stop q s r h hr =>
    intro n c hn
    obtain ⟨n, rfl⟩ : ∃ n', n = n' + 1 + 1 := ⟨n - 2, by omega⟩
    refine ⟨s, r, ?_⟩
    have b1 : muB [.val (ofP d), c1, .val (nD c), .val (ofP q), .val (ofP [])] = .next [.val (ofP d), c1, .val (nD (c + 1)), .val (ofP s), .val (ofP r)] :=
      (seq_next (ρ' := [.val (ofP d), c1, .val (nD (c + 1)), .val (ofP q), .val (ofP [])]) (set_ok (op2_ok rfl rfl (addI_nn c 1)))).trans (mu_asg h (by omega) rfl)
    rw [whileN_t (by rw [mu_c (q := q), decide_eq_true rfl]) b1, whileN_f (by rw [mu_c (q := q), decide_eq_false hr])]
  | @step q s k h hl _ ih =>
    intro n c hn
    obtain ⟨n, rfl⟩ : ∃ n', n = n' + 1 := ⟨n - 1, by omega⟩
    obtain ⟨s', r', e⟩ := ih n (c + 1) (by omega)
    refine ⟨s', r', ?_⟩
    have b1 : muB [.val (ofP d), c1, .val (nD c), .val (ofP q), .val (ofP [])] = .next [.val (ofP d), c1, .val (nD (c + 1)), .val (ofP s), .val (ofP [])] :=
      (seq_next (ρ' := [.val (ofP d), c1, .val (nD (c + 1)), .val (ofP q), .val (ofP [])]) (set_ok (op2_ok rfl rfl (addI_nn c 1)))).trans (mu_asg h (by omega) rfl)
    rw [whileN_t (by rw [mu_c (q := q), decide_eq_true rfl]) b1, e, show c + 1 + 1 + k = c + 1 + (k + 1) by omega]
set_option Elab.async false
set_option linter.all false
set_option maxRecDepth 100000
set_option maxHeartbeats 1000000
-- the laws' own polynomials
open PySem L2
theorem law_trim_q {r : List Rat} : f_law_trim [tql r] = .ok (tqs (trim r)) := by
  refine runD_ret [.val (tql r), .no] rfl rfl ?_
  unfold b_law_trim
  refine (seq_next (ρ' := [.val (tql r), .val (nD r.length)]) (set_ok (len_ok rfl (List.length_map _)))).trans ?_
  have c0 : T.and (T.tst (E.op2 gtI (E.var 1) (E.c (.int 0)))) (T.tst (E.op2 eqS (E.ix (Z.seq (E.ix (Z.seq (E.var 0)) (E.op2 subI (E.var 1) (E.c (.int 1))))) (E.c (.int 0))) (E.c (.int 0)))) [.val (tql r), .val (nD 0)] = .ok false := rfl
  have cnd : ∀ a, a + 1 ≤ r.length → T.and (T.tst (E.op2 gtI (E.var 1) (E.c (.int 0)))) (T.tst (E.op2 eqS (E.ix (Z.seq (E.ix (Z.seq (E.var 0)) (E.op2 subI (E.var 1) (E.c (.int 1))))) (E.c (.int 0))) (E.c (.int 0)))) [.val (tql r), .val (nD (a + 1))] = .ok (decide (r.getD a 0 = 0)) := fun a ha =>
    and_t (tst_ok (op2_ok rfl rfl (gtI_1 a))) (tst_ok (op2_ok (ix_ok (seq_of (.inl (ix_ok (seq_of (.inr rfl)) (op2_ok rfl rfl (subI_1 a)) (itemT (by omega))))) rfl (tq_0 _)) rfl (eqS_num _)))
  obtain ⟨ρ', e1, ⟨a, ha, hz, e2⟩, e3⟩ := while_inv (c := T.and (T.tst (E.op2 gtI (E.var 1) (E.c (.int 0)))) (T.tst (E.op2 eqS (E.ix (Z.seq (E.ix (Z.seq (E.var 0)) (E.op2 subI (E.var 1) (E.c (.int 1))))) (E.c (.int 0))) (E.c (.int 0))))) (b := S.set 1 (E.op2 subI (E.var 1) (E.c (.int 1))))
    (fun ρ => ∃ a, a ≤ r.length ∧ (∀ j, a ≤ j → r.getD j 0 = 0) ∧ ρ = [.val (tql r), .val (nD a)]) trM (fun ρ ⟨a, ha, hz, e⟩ => by
    subst e
    cases a with
    | zero => exact .inl c0
    | succ a =>
      rw [cnd a ha]
      by_cases z : r.getD a 0 = 0
      · refine .inr ⟨by rw [decide_eq_true z], [.val (tql r), .val (nD a)], set_ok (op2_ok rfl rfl (subI_1 a)), ⟨a, by omega, fun j hj => ?_, rfl⟩, ?_⟩
        · rcases Nat.lt_or_ge a j with q | q
          · exact hz j q
          · rw [show j = a by omega]; exact z
        · show ((a : Int)).toNat < (((a + 1 : Nat) : Int)).toNat
          omega
      · exact .inl (by rw [decide_eq_false z])) (r.length + 1) [.val (tql r), .val (nD r.length)] ⟨r.length, Nat.le_refl _, fun j hj => by rw [List.getD_eq_getElem?_getD, List.getElem?_eq_none hj]; rfl, rfl⟩ (by show ((r.length : Int)).toNat < _; omega)
  subst e2
  have hend : a = 0 ∨ r.getD (a - 1) 0 ≠ 0 := by
    cases a with
    | zero => exact .inl rfl
    | succ a =>
      rw [cnd a ha] at e3
      exact .inr (of_decide_eq_false (Res.ok.inj e3))
  rw [take_trim hz hend ha]
  refine (seq_next (ρ' := [.val (tql r), .val (nD a)]) ?_).trans (ret_ok ?_)
  · unfold S.whil
    rw [show fuelI 1 [.val (tql r), .val (nD r.length)] = r.length + 1 by rfl]
    exact e1
  · show E.asTup _ _ = _
    unfold E.asTup
    rw [cutL_ok (xs := r.map tq) (a := none) (b := some (a : Int)) rfl rfl rfl, cut_upto, ← List.map_take]
    rfl
theorem law_small_skolem (xs : List Int) : ∃ f : Nat → Rat, ∀ k, Qb 4 (f k) ∧ f_law_small [.int (xs.getD (2 * k) 0), .int (xs.getD (2 * k + 1) 0)] = .ok (tq (f k)) := list_skolem (α := Unit) fun k => law_small_q _ _
theorem law_poly_q {xs : List Int} {n : Nat} (h : 2 * n ≤ xs.length) (hn : n ≤ 100) : ∃ r : List Rat, r.length = n ∧ QL 4 r ∧ f_law_poly [.lst (xs.map D.int), nD n] = .ok (tqs (trim r)) := by
  obtain ⟨f, hf⟩ := law_small_skolem xs
  refine ⟨(List.range n).map f, by rw [List.length_map, List.length_range], .of (by omega) fun x hx => by obtain ⟨k, _, rfl⟩ := List.mem_map.mp hx; exact (hf k).1, ?_⟩
  refine runD_ret [.val (.lst (xs.map D.int)), .val (nD n), .no] rfl rfl ?_
  unfold b_law_poly
  refine ret_ok (app_ok (cons_ok (lst_ok (ds := ((List.range n).map f).map tq) ?_) nil_ok) law_trim_q)
  rw [comp_map (xs := List.range n) (enc := nD) (fun k => tq (f k)) (by rw [rng1_n (n := n) rfl (by omega), rngD_map0]) rfl (by rw [List.length_range]; omega) fun k hk => ?_, List.map_map]
  · rfl
  · rw [List.mem_range] at hk
    have m2 : mulI (.int 2) (nD k) = .ok (nD (2 * k)) := mulI_nn (a := 2) (by omega)
    exact ⟨[.val (.lst (xs.map D.int)), .val (nD n), .val (nD k)], rfl, rfl, app_ok (cons_ok (ix_ok (seq_of (.inr rfl)) (op2_ok rfl rfl m2) (draws_ix (by omega))) (cons_ok (ix_ok (seq_of (.inr rfl)) (op2_ok (op2_ok rfl rfl m2) rfl (addI_nn _ 1)) (draws_ix (by omega))) nil_ok)) (hf k).2⟩
theorem maxI_nn (a b : Nat) : maxI (nD a) (nD b) = .ok (nD (max a b)) := by
  unfold maxI
  dsimp only
  show Res.ok (D.int _) = Res.ok (D.int _)
  congr 2
  split <;> omega
theorem pick_tq {i j : Nat} {r : List Rat} {k : Nat} {ρ : Env} (hi : E.var i ρ = .ok (tqs r)) (hj : E.var j ρ = .ok (nD k)) : E.ite (T.tst (E.op2 ltI (E.var j) (E.len (Z.seq (E.var i))))) (E.ix (Z.seq (E.var i)) (E.var j)) (E.tupl (E.cons (E.c (.int 0)) (E.cons (E.c (.int 1)) E.nil))) ρ = .ok (tq (r.getD k 0)) := by
  have hc := tst_ok (op2_ok hj (len_ok (n := r.length) (seq_of (.inl hi)) (List.length_map _)) ltI_nn)
  by_cases h : k < r.length
  · rw [decide_eq_true h] at hc
    rw [eite_t hc]
    exact ix_ok (seq_of (.inl hi)) hj (itemT h)
  · rw [decide_eq_false h] at hc
    rw [eite_f hc, List.getD_eq_getElem?_getD, List.getElem?_eq_none (by omega)]
    exact tupl_ok (cons_ok (f := E.c (.int 0)) rfl (cons_ok (f := E.c (.int 1)) rfl nil_ok))
theorem padd_mk (p q : List Rat) : (List.range (max p.length q.length)).map (fun k => p.getD k 0 + q.getD k 0) = padd p q := by
  refine List.ext_getElem (by rw [List.length_map, List.length_range, padd_len]) fun i h1 h2 => ?_
  have := padd_getD p q i
  rw [List.getD_eq_getElem?_getD (l := padd p q), List.getElem?_eq_getElem h2, Option.getD_some] at this
  rw [List.getElem_map, List.getElem_range, this]
theorem law_padd_q {n m : Nat} {p q : List Rat} (hp : QL n p) (hq : QL m q) (lp : p.length ≤ 400) (lq : q.length ≤ 400) (hB : n + m ≤ 100000000) : f_law_padd [tqs p, tqs q] = .ok (tqs (trim (padd p q))) := by
  refine runD_ret [.val (tqs p), .val (tqs q), .no, .no, .no, .no] rfl rfl ?_
  unfold b_law_padd
  refine (seq_next (ρ' := [.val (tqs p), .val (tqs q), .own [], .no, .no, .no]) (setF_ok (disp_ok nil_ok))).trans ?_
  generalize hR : S.freeze 2 _ = G2
  generalize hG : S.seq (S.set 4 _) _ = G1
  obtain ⟨ρ', e1, c3, c4, c5, e2⟩ := forE_0 (g := S.tgt 3) (b := G1) (fun m ρ => ∃ c3 c4 c5 : Cell, ρ = [.val (tqs p), .val (tqs q), .own (((List.range m).map fun k => p.getD k 0 + q.getD k 0).map tq), c3, c4, c5]) (n := max p.length q.length) (ρ := [.val (tqs p), .val (tqs q), .own [], .no, .no, .no]) (rng1_n (op2_ok (len_ok (q := Z.seq (E.var 0)) (n := p.length) rfl (List.length_map _)) (len_ok (q := Z.seq (E.var 1)) (n := q.length) rfl (List.length_map _)) (maxI_nn _ _)) (by omega)) ⟨.no, .no, .no, rfl⟩ fun m ρ hm ⟨c3, c4, c5, e⟩ => by
    subst e
    subst hG
    refine ⟨[.val (tqs p), .val (tqs q), .own (((List.range m).map fun k => p.getD k 0 + q.getD k 0).map tq), .val (nD m), c4, c5], rfl, ?_⟩
    refine ⟨_, (seq_next (ρ' := [.val (tqs p), .val (tqs q), .own (((List.range m).map fun k => p.getD k 0 + q.getD k 0).map tq), .val (nD m), .val (tq (p.getD m 0)), c5]) (set_ok (pick_tq rfl rfl))).trans ((seq_next (ρ' := [.val (tqs p), .val (tqs q), .own (((List.range m).map fun k => p.getD k 0 + q.getD k 0).map tq), .val (nD m), .val (tq (p.getD m 0)), .val (tq (q.getD m 0))]) (set_ok (pick_tq rfl rfl))).trans (app_nextG rfl (app_ok (cons_ok rfl (cons_ok rfl nil_ok)) (law_add_q (hp m) (hq m) hB)) (by rw [List.length_map, List.length_map, List.length_range]; omega))), .val (nD m), .val (tq (p.getD m 0)), .val (tq (q.getD m 0)), ?_⟩
    rw [List.range_succ, List.map_append, List.map_append]
    rfl
  rw [padd_mk] at e2
  refine (seq_next (e1.trans (by rw [e2]))).trans ?_
  subst hR
  show S.ret (E.app f_law_trim (E.cons (E.var 2) E.nil)) [.val (tqs p), .val (tqs q), .val (tql (padd p q)), c3, c4, c5] = _
  exact ret_ok (app_ok (cons_ok rfl nil_ok) law_trim_q)
theorem pmul_inner {n m e j : Nat} {p q o : List Rat} (c4 : Cell) (hk : j + q.length ≤ o.length) (hj : j < p.length) (hp : QL n p) (ho : QL e o) (hq : QL m q) (lq : q.length ≤ 400) (hB : e + n + n + m + m + 1 ≤ 100000000) :
    ∃ c4' : Cell, S.forE (E.rng1 (E.len (Z.seq (E.var 1)))) (S.tgt 4) (S.setAt 2 (E.op2 addI (E.var 3) (E.var 4)) (E.app f_law_add (E.cons (E.ix (Z.own 2) (E.op2 addI (E.var 3) (E.var 4))) (E.cons (E.app f_law_mul (E.cons (E.ix (Z.seq (E.var 0)) (E.var 3)) (E.cons (E.ix (Z.seq (E.var 1)) (E.var 4)) E.nil))) E.nil)))) [.val (tqs p), .val (tqs q), .own (o.map tq), .val (nD j), c4] = .next [.val (tqs p), .val (tqs q), .own ((adds (p.getD j 0) j o q).map tq), .val (nD j), c4'] := by
  generalize hG : S.setAt 2 _ _ = G1
  obtain ⟨ρ', e1, c4', e2⟩ := forE_0 (g := S.tgt 4) (b := G1) (fun i ρ => ∃ c4 : Cell, ρ = [.val (tqs p), .val (tqs q), .own ((adds (p.getD j 0) j o (q.take i)).map tq), .val (nD j), c4]) (n := q.length) (it := E.rng1 (E.len (Z.seq (E.var 1)))) (ρ := [.val (tqs p), .val (tqs q), .own (o.map tq), .val (nD j), c4]) (rng1_n (len_ok (n := q.length) rfl (List.length_map _)) (by omega)) ⟨c4, by rw [List.take_zero]; rfl⟩ fun k ρ hi ⟨c4, e⟩ => by
    subst e
    subst hG
    rw [adds_take hi]
    have lo : (adds (p.getD j 0) j o (q.take k)).length = o.length := adds_len _ _ _ _
    have h1 : 1 ≤ m := by
      by_cases h1 : 1 ≤ m
      · exact h1
      · have := (hq 0).den
        have h2 := Rat.den_pos (self := q.getD 0 0)
        rw [show m = 0 by omega] at this
        omega
    have hqq : QL (e + n + m + 1) (adds (p.getD j 0) j o (q.take k)) := ho.adds (hp j) (hq.take h1 k) (by rw [List.length_take]; omega)
    generalize adds (p.getD j 0) j o (q.take k) = o' at *
    have ha := law_add_q (hqq (j + k)) ((hp j).mul (hq k)) (by omega)
    have hm := law_mul_q (hp j) (hq k) (by omega)
    refine ⟨[.val (tqs p), .val (tqs q), .own (o'.map tq), .val (nD j), .val (nD k)], rfl, _, setAt_next rfl (app_ok (cons_ok (ix_ok (q := Z.own 2) rfl (op2_ok rfl rfl (addI_nn _ _)) (itemT (by omega))) (cons_ok (app_ok (cons_ok (ix_ok (seq_of (.inl rfl)) rfl (itemT (by omega))) (cons_ok (ix_ok (seq_of (.inl rfl)) rfl (itemT (by omega))) nil_ok)) hm) nil_ok)) ha) (op2_ok rfl rfl (addI_nn _ _)) (ixN_n (by rw [List.length_map]; omega)), .val (nD k), ?_⟩
    rw [set_map tq]
    rfl
  rw [List.take_length] at e2
  exact ⟨c4', e2 ▸ e1⟩
theorem law_pmul_q {n m : Nat} {p q : List Rat} (hp : QL n p) (hq : QL m q) (hlp : p.length ≤ 400) (hlq : q.length ≤ 400) (hB : p.length * (n + m + 1) + 2 * n + 2 * m ≤ 90000000) : f_law_pmul [tqs p, tqs q] = .ok (tqs (pm p q)) := by
  refine runD_ret [.val (tqs p), .val (tqs q), .no, .no, .no] rfl rfl ?_
  unfold b_law_pmul
  refine (seq_next (ρ' := [.val (tqs p), .val (tqs q), .own ((zerov (p.length + q.length)).map tq), .no, .no]) (setF_ok (zeros_tq (op2_ok (len_ok (n := p.length) rfl (List.length_map _)) (len_ok (n := q.length) rfl (List.length_map _)) (addI_nn _ _)) rfl (by simp) (by omega)))).trans ?_
  generalize hR : S.freeze 2 _ = G2
  generalize hG : S.forE (E.rng1 (E.len (Z.seq (E.var 1)))) _ _ = G1
  have ez : ∀ x, evl (zerov (p.length + q.length)) x = 0 := fun x => ev_Zs (fun a ha => by unfold zerov at ha; obtain ⟨k, _, e⟩ := List.mem_map.mp ha; exact e.symm) x
  obtain ⟨ρ', e1, o, c3, c4, lo, so, eo, e2⟩ := forE_0 (g := S.tgt 3) (b := G1) (fun i ρ => ∃ (o : List Rat) (c3 c4 : Cell), o.length = p.length + q.length ∧ QL (i * (n + m + 1) + 1) o ∧ (∀ x, evl o x = evl (p.take i) x * evl q x) ∧ ρ = [.val (tqs p), .val (tqs q), .own (o.map tq), c3, c4]) (n := p.length) (it := E.rng1 (E.len (Z.seq (E.var 0)))) (ρ := [.val (tqs p), .val (tqs q), .own ((zerov (p.length + q.length)).map tq), .no, .no])
    (rng1_n (len_ok (n := p.length) rfl (List.length_map _)) (by omega))
    ⟨_, .no, .no, zerov_len _, .of (by omega) (zerov_siz (by omega)), fun x => by rw [ez, List.take_zero, ev_nil]; grind, rfl⟩ fun k ρ hi ⟨o, c3, c4, lo, so, eo, e⟩ => by
      subst e
      subst hG
      have hm : (k + 1) * (n + m + 1) ≤ p.length * (n + m + 1) := Nat.mul_le_mul_right _ (by omega)
      rw [Nat.succ_mul] at hm
      obtain ⟨c4', h⟩ := pmul_inner c4 (j := k) (by omega) hi hp so hq hlq (by omega)
      refine ⟨[.val (tqs p), .val (tqs q), .own (o.map tq), .val (nD k), c4], rfl, _, h, _, _, _, by rw [adds_len, lo], (so.adds (hp k) hq (by omega)).mono (by rw [Nat.succ_mul]; omega), fun x => ?_, rfl⟩
      rw [ev_adds _ _ _ _ _ (by omega), eo, ev_take_succ hi]
      grind
  refine (seq_next (e1.trans (by rw [e2]))).trans ?_
  subst hR
  show S.ret (E.app f_law_trim (E.cons (E.var 2) E.nil)) [.val (tqs p), .val (tqs q), .val (tql o), c3, c4] = _
  refine ret_ok (app_ok (cons_ok rfl nil_ok) ?_)
  rw [← pm_eq (p := p) (q := q) (fun x => by rw [eo, List.take_length])]
  exact law_trim_q
theorem law_make_q {r : List Rat} (hl : r.length ≤ 1000) : f_law_make [tqs r] = .ok (ofP (trim r)) := by
  have cm : E.comp [1] (Z.seq (E.var 0)) (S.tgt 1) T.yes (E.app (objR 0 f_Ratio_init_2) (E.cons (E.ix (Z.seq (E.var 1)) (E.c (.int 0))) (E.cons (E.ix (Z.seq (E.var 1)) (E.c (.int 1))) E.nil))) [.val (tqs r), .no] = .ok (r.map ofQ) := by
    refine comp_map (enc := tq) ofQ (by wp_walk) rfl (by omega) fun q hq => ⟨_, by wp_walk; rfl, rfl, ?_⟩
    have e := init2_ok q.num q.den (den_ne q)
    rw [Rat.num_divInt_den] at e
    (wp_walk using e)
  refine runD_ret [.val (tqs r), .no] rfl rfl (ret_ok (app_ok (cons_ok (lst_ok cm) nil_ok) ?_))
  unfold objR
  rw [Poly_init_q (.inl rfl) hl]
  rfl
theorem law_row_q {r : List Rat} (ht : Tr r) (hl : r.length ≤ 1000) : f_law_row [ofP r] = .ok (tqs r) := by
  refine runD_ret [.val (ofP r), .no, .no] rfl rfl ?_
  unfold b_law_row
  refine (seq_next (ρ' := [.val (ofP r), .no, .no]) rfl).trans ?_
  have cm : E.comp [2] (Z.seq (E.fld 1 0 (E.var 0))) (S.tgt 2) T.yes (E.app f_law_pair (E.cons (E.var 2) E.nil)) [.val (ofP r), .no, .no] = .ok (r.map tq) := comp_map (enc := ofQ) tq rfl rfl (by omega) fun q hq => ⟨_, rfl, rfl, app_ok (cons_ok (f := E.var 2) rfl nil_ok) law_pair_q⟩
  refine (seq_next (ρ' := [.val (ofP r), .val (tql r), .no]) (set_ok (lst_ok cm))).trans ?_
  have t2 : T.tst (E.inP false (E.c .non) (Z.lst (E.var 1))) [.val (ofP r), .val (tql r), .no] = .ok false := by
    refine tst_ok ?_
    unfold E.inP
    rw [show E.c D.non [.val (ofP r), .val (tql r), .no] = .ok .non from rfl, Res.bind_ok, show Z.lst (E.var 1) [.val (ofP r), .val (tql r), .no] = .ok (r.map tq) from rfl, Res.bind_ok]
    rw [toPs_tq, show toP .non = some .none by simp [toP]]
    dsimp only
    rw [if_pos ⟨by decide, (sh_rowL r).shaped (by decide)⟩, any_pq]
    rfl
  have hlen : E.len (Z.seq (E.var 1)) [.val (ofP r), .val (tql r), .no] = .ok (nD r.length) := len_ok rfl (List.length_map _)
  have t3 : T.and (T.tst (E.op2 gtI (E.len (Z.seq (E.var 1))) (E.c (.int 0)))) (T.tst (E.op2 eqS (E.ix (Z.seq (E.ix (Z.seq (E.var 1)) (E.op2 subI (E.len (Z.seq (E.var 1))) (E.c (.int 1))))) (E.c (.int 0))) (E.c (.int 0)))) [.val (ofP r), .val (tql r), .no] = .ok false := by
    by_cases h0 : r = []
    · subst h0
      rfl
    · obtain ⟨r', l, rfl, hz⟩ := ht.split h0
      have ll : (r' ++ [l]).length = r'.length + 1 := List.length_append
      rw [ll] at hlen
      refine and_t (tst_ok (op2_ok hlen rfl (gtI_1 _))) (tst_ok (op2_ok (ix_ok (seq_of (.inl (ix_ok (seq_of (.inr rfl)) (op2_ok hlen rfl (subI_1 _)) (itemT (by omega))))) rfl (tq_0 _)) rfl (show eqS _ _ = .ok (.bl false) from ?_)))
      rw [eqS_num, List.getD_eq_getElem?_getD, List.getElem?_append_right (Nat.le_refl _)]
      simp [hz]
  refine (seq_next (ρ' := [.val (ofP r), .val (tql r), .no]) (by rw [ite_f (or_f t2 t3)]; rfl)).trans ?_
  exact ret_ok (asTup_ok (f := Z.seq (E.var 1)) rfl)
set_option Elab.async false
set_option linter.all false
set_option maxRecDepth 100000
set_option maxHeartbeats 1000000
-- Poly: mixed rows, multiplicities that are there
open PySem L2
def cf : Int ⊕ Rat → D
  | .inl i => .int i
  | .inr q => ofQ q
def cv : Int ⊕ Rat → Rat
  | .inl i => (i : Rat)
  | .inr q => q
theorem Poly_init_mix {xs : List (Int ⊕ Rat)} {d : D} (hd : d = .lst (xs.map cf) ∨ d = .tup (xs.map cf)) (hl : xs.length ≤ 1000) : f_Poly_init_1 [d] = .ok [.tup ((trim (xs.map cv)).map ofQ)] := by
  have hq : Z.seq (E.var 1) [.ins 1 [], .val d, .no] = .ok (xs.map cf) := by rcases hd with rfl | rfl <;> rfl
  have hc : E.comp [2] (Z.seq (E.var 1)) (S.tgt 2) T.yes (E.ite (T.tst (E.op1 (isiR isi_int) (E.var 2))) (E.app (objR 0 f_Ratio_init_1) (E.cons (E.var 2) E.nil)) (E.var 2)) [.ins 1 [], .val d, .no] = .ok ((xs.map cv).map ofQ) := by
    rw [List.map_map]
    refine comp_map (enc := cf) (fun x => ofQ (cv x)) hq rfl (by omega) fun x _ => ⟨[.ins 1 [], .val d, .val (cf x)], rfl, rfl, ?_⟩
    cases x with
    | inl i =>
      rw [eite_t (show T.tst (E.op1 (isiR isi_int) (E.var 2)) [.ins 1 [], .val d, .val (cf (.inl i))] = .ok true from rfl)]
      exact app_ok rfl (Ratio_q i)
    | inr q =>
      rw [eite_f (show T.tst (E.op1 (isiR isi_int) (E.var 2)) [.ins 1 [], .val d, .val (cf (.inr q))] = .ok false from rfl)]
      rfl
  have hb : b_Poly_init [.ins 1 [], .val d, .no] = .next [.ins 1 [.tup ((trim (xs.map cv)).map ofQ)], .val d, .no] := by
    unfold b_Poly_init
    have ha : E.app f_trimmed (E.cons (E.lst (E.comp [2] (Z.seq (E.var 1)) (S.tgt 2) T.yes (E.ite (T.tst (E.op1 (isiR isi_int) (E.var 2))) (E.app (objR 0 f_Ratio_init_1) (E.cons (E.var 2) E.nil)) (E.var 2)))) E.nil) [.ins 1 [], .val d, .no] = .ok (.tup ((trim (xs.map cv)).map ofQ)) :=
      app_ok (ds := [.lst ((xs.map cv).map ofQ)]) (by
        revert hc
        generalize E.comp _ _ _ _ _ = F
        intro hc
        unfold E.cons E.lst
        rw [hc]
        rfl) trimmed_q
    unfold S.fld
    rw [ha]
    rfl
  unfold f_Poly_init_1 runI
  rw [if_pos (show [d].length = 1 from rfl), show enter (3 - 1) [d] = [.val d, .no] from rfl, hb]
  rfl
theorem Poly_make_mix {xs : List (Int ⊕ Rat)} {d : D} (hd : d = .lst (xs.map cf) ∨ d = .tup (xs.map cf)) (hl : xs.length ≤ 1000) : objR 1 f_Poly_init_1 [d] = .ok (ofP (trim (xs.map cv))) := by
  unfold objR
  rw [Poly_init_mix hd hl]
  rfl
theorem mu_none {d : List Rat} {n N : Nat} (hn : 1 ≤ n) (hd : Tr d) (hdl : 2 ≤ d.length) (ld : d.length ≤ 400) (qd : QL n d) : ∀ (L : Nat) (q : List Rat) (e : Nat), q.length ≤ L → L ≤ 300 → Tr q → q ≠ [] → QL e q → (e + 2 * n + 1) * muT L ≤ N → (L + 5) * (2 * N + 1) + 5 * N ≤ 80000000 → ∃ k, Mu d k q
  | 0, q, _, hl, _, _, hq, _, _, _ => absurd (List.length_eq_zero_iff.mp (by omega)) hq
  | L + 1, q, e, hl, hL, ht, hq, qe, hb, hc => by
    obtain ⟨s, r, hs, hr, hrl, he, qs, qr, ls⟩ := div_ex ht hd (by intro z; rw [z] at hdl; simp at hdl) hn qe qd
    have hK : q.length + 1 - d.length ≤ L := by omega
    have hb' := muT_step hb hK
    have big : 2 ^ (q.length + 1 - d.length) * (e + 2 * n + 1) + 2 * n + 1 ≤ N := Nat.le_trans (Nat.le_mul_of_pos_right _ (muT_pos L)) hb'
    have be : e + 2 * n + 1 ≤ N := Nat.le_trans (Nat.le_mul_of_pos_right _ (muT_pos (L + 1))) hb
    have m1 : s.length * (2 * N + 1) ≤ (L + 1 + 5) * (2 * N + 1) := Nat.mul_le_mul_right _ (by omega)
    have m2 : (L + 5) * (2 * N + 1) ≤ (L + 1 + 5) * (2 * N + 1) := Nat.mul_le_mul_right _ (by omega)
    have hdiv := Poly_divided_q (n := N) (by omega) ht hs hd (by intro z; rw [z] at hdl; simp at hdl) hr hrl he qe (qs.mono (by omega)) (qd.mono (by omega)) (by omega) (by omega) (by omega)
    by_cases z : r = []
    · subst z
      have sn : s ≠ [] := by
        intro z
        subst z
        apply hq
        exact ev_inj ht (fun a h => by simp at h) fun x => by rw [he, ev_nil]; grind
      have hq0 : q.length ≠ 0 := fun z => hq (List.length_eq_zero_iff.mp z)
      obtain ⟨k, hk⟩ := mu_none hn hd hdl ld qd L s _ (by omega) (by omega) hs sn qs hb' (by omega)
      exact ⟨k + 1, .step hdiv (by have hs0 : s.length ≠ 0 := fun z => sn (List.length_eq_zero_iff.mp z); omega) hk⟩
    · exact ⟨0, .stop hdiv z⟩
set_option Elab.async false
set_option linter.all false
set_option maxRecDepth 100000
set_option maxHeartbeats 1000000
-- Poly: sums, multiples; the division over common denominators
open PySem L2
theorem Poly_make_q {r : List Rat} {d : D} (hd : d = .lst (r.map ofQ) ∨ d = .tup (r.map ofQ)) (hl : r.length ≤ 1000) : objR 1 f_Poly_init_1 [d] = .ok (ofP (trim r)) := by
  unfold objR
  rw [Poly_init_q hd hl]
  rfl
theorem Poly_divided_i {e n : Nat} {p d r s : List Rat} (hp : Tr p) (hs : Tr s) (hd : Tr d) (hdn : d ≠ []) (hr : Tr r) (hl : r.length < d.length) (h : ∀ x, evl p x = evl s x * evl d x + evl r x) (qp : IB e p) (qd : IB n d) (lp : p.length ≤ 400) (ls : d.length ≤ 400) (hB : 3 * (e + s.length * (n + 1)) + 6 * n ≤ 90000000) :
    f_Poly_divided [ofP p, ofP d] = .ok (.tup [ofP s, ofP r]) := by
  have hn := qd.pos
  obtain ⟨S0, hsl⟩ := DivSt.start hp hs hd hdn hr hl h
  obtain ⟨d', m, ed, hm⟩ := hd.split hdn
  have ld : d.length = d'.length + 1 := by rw [ed]; exact List.length_append
  have qm : Qb n m := qd.ql.mem m (by rw [ed]; simp)
  refine runD_ret [.val (ofP p), .val (ofP d), .no, .no, .no, .no, .no, .no, .no, .no, .no] rfl rfl ?_
  unfold b_Poly_divided
  refine (seq_next (ρ' := [.val (ofP p), .val (ofP d), .val (ofQ m⁻¹), .no, .no, .no, .no, .no, .no, .no, .no]) (set_ok (meth_ok (meth_ok rfl nil_ok (show f_Poly_last (ofP d :: []) = _ by rw [ed]; exact Poly_last_q _ _)) nil_ok (Ratio_inverse_q hm)))).trans ?_
  refine (seq_next (ρ' := [.val (ofP p), .val (ofP d), .val (ofQ m⁻¹), .own (p.map ofQ), .no, .no, .no, .no, .no, .no, .no]) (setF_ok (show Z.seq (E.fld 1 0 (E.var 0)) _ = _ from rfl))).trans ?_
  refine (seq_next (ρ' := [.val (ofP p), .val (ofP d), .val (ofQ m⁻¹), .own (p.map ofQ), .val (nD s.length), .no, .no, .no, .no, .no, .no]) (set_ok (op2_ok rfl (op2_ok (op2_ok (len_ok (n := p.length) rfl (List.length_map _)) (len_ok (n := d.length) rfl (List.length_map _)) (subI_i _ _)) rfl (addI_i _ _)) (by rw [maxI_n, show ((p.length : Int) - (d.length : Int) + 1).toNat = s.length by omega])))).trans ?_
  refine (seq_next (ρ' := [.val (ofP p), .val (ofP d), .val (ofQ m⁻¹), .own (p.map ofQ), .val (nD s.length), .own ((zerov s.length).map ofQ), .no, .no, .no, .no, .no]) (setF_ok (zeros_q rfl rfl (by simp) (by omega)))).trans ?_
  generalize hR : S.freeze 5 _ = G2
  generalize hG : S.seq (S.set 8 _) _ = G1
  obtain ⟨ρ', e1, o, c7, c8, c9, c10, lo, so, st, e2⟩ := forE_ix (List.range s.length) (enc := fun (i : Nat) => .int ((s.length : Int) - 1 - (i : Int))) (g := S.tgt 7) (b := G1) (fun i ρ => ∃ (o : List Rat) (c7 c8 c9 c10 : Cell), o.length = p.length ∧ IB (e + i * (n + 1)) o ∧ DivSt d r (s.take (s.length - i)) o ∧ ρ = [.val (ofP p), .val (ofP d), .val (ofQ m⁻¹), .own (o.map ofQ), .val (nD s.length), .own ((zerov (s.length - i) ++ s.drop (s.length - i)).map ofQ), .no, c7, c8, c9, c10]) (it := E.rngDown (E.op2 subI (E.var 4) (E.c (.int 1))) (E.op1 negI (E.c (.int 1))) (E.op1 negI (E.c (.int 1)))) (ρ := [.val (ofP p), .val (ofP d), .val (ofQ m⁻¹), .own (p.map ofQ), .val (nD s.length), .own ((zerov s.length).map ofQ), .no, .no, .no, .no, .no])
    (rngDown_n (op2_ok rfl rfl (subI_i _ _)) rfl rfl (by omega))
    ⟨p, .no, .no, .no, .no, rfl, qp.mono (by omega), by rw [Nat.sub_zero, List.take_length]; exact S0, by rw [Nat.sub_zero, List.drop_length, List.append_nil]⟩ fun i i' ρ hj ⟨o, c7, c8, c9, c10, lo, so, st, e⟩ => by
      subst e
      subst hG
      obtain ⟨rfl, hi⟩ := range_at hj
      obtain ⟨K, hK⟩ : ∃ K, s.length - i' = K + 1 := ⟨s.length - i' - 1, by omega⟩
      have hK' : s.length - (i' + 1) = K := by omega
      have hsm : (i' + 1) * (n + 1) = i' * (n + 1) + (n + 1) := Nat.succ_mul _ _
      have eK : (s.length : Int) - 1 - (i' : Int) = (K : Int) := by omega
      rw [hK] at st ⊢
      rw [hK', eK]
      have es : s.take (K + 1) = s.take K ++ [s.getD K 0] := by
        rw [List.take_succ_eq_append_getElem (by omega), List.getD_eq_getElem?_getD, List.getElem?_eq_getElem (by omega)]
        rfl
      have lK : (s.take K).length = K := by rw [List.length_take]; omega
      rw [es, ed] at st
      obtain ⟨t1, t2, t3⟩ := st.step (by omega) hm
      rw [← ed, lK] at t1 t2 t3
      have eK2 : K + d.length - 1 = K + d'.length := by omega
      rw [eK2] at t1
      have qd' := qd
      rw [ed] at qd'
      have qc : Qb (e + i' * (n + 1) + n) (s.getD K 0) := by rw [← t1]; exact so.quot qd'
      have so' : IB (e + i' * (n + 1) + n + 1) (adds (-(s.getD K 0)) K o d) := by
        have := so.step (k := K) hm qd' (by rw [← ed]; exact t2)
        rw [t1, ← ed] at this
        exact this
      have hmul := Ratio_mul_q (so.ql (K + d.length - 1)) (qm.inv hn) (by
        have : (i' + 1) * (n + 1) ≤ s.length * (n + 1) := Nat.mul_le_mul_right _ (by omega)
        rw [hsm] at this
        omega)
      rw [eK2, t1] at hmul
      refine ⟨[.val (ofP p), .val (ofP d), .val (ofQ m⁻¹), .own (o.map ofQ), .val (nD s.length), .own ((zerov (K + 1) ++ s.drop (K + 1)).map ofQ), .no, .val (nD K), c8, c9, c10], rfl, ?_⟩
      have a1 : S.set 8 (E.own2 0 f_Ratio_mul (E.ix (Z.own 3) (E.op2 subI (E.op2 addI (E.var 7) (E.len (Z.seq (E.fld 1 0 (E.var 1))))) (E.c (.int 1)))) (E.var 2)) [.val (ofP p), .val (ofP d), .val (ofQ m⁻¹), .own (o.map ofQ), .val (nD s.length), .own ((zerov (K + 1) ++ s.drop (K + 1)).map ofQ), .no, .val (nD K), c8, c9, c10] = .next [.val (ofP p), .val (ofP d), .val (ofQ m⁻¹), .own (o.map ofQ), .val (nD s.length), .own ((zerov (K + 1) ++ s.drop (K + 1)).map ofQ), .no, .val (nD K), .val (ofQ (s.getD K 0)), c9, c10] :=
        set_ok (own2_ok (ix_ok (q := Z.own 3) rfl (op2_ok (op2_ok rfl (len_ok (n := d.length) rfl (List.length_map _)) (addI_nn _ _)) rfl (by rw [show K + d.length = (K + d.length - 1) + 1 by omega]; exact subI_1 _)) (by rw [eK2]; exact itemQ (by omega))) rfl hmul)
      have a2 : S.setAt 5 (E.var 7) (E.var 8) [.val (ofP p), .val (ofP d), .val (ofQ m⁻¹), .own (o.map ofQ), .val (nD s.length), .own ((zerov (K + 1) ++ s.drop (K + 1)).map ofQ), .no, .val (nD K), .val (ofQ (s.getD K 0)), c9, c10] = .next [.val (ofP p), .val (ofP d), .val (ofQ m⁻¹), .own (o.map ofQ), .val (nD s.length), .own ((zerov K ++ s.drop K).map ofQ), .no, .val (nD K), .val (ofQ (s.getD K 0)), c9, c10] := by
        rw [setAt_next (i := 5) (fk := E.var 7) (fv := E.var 8) rfl rfl rfl (ixN_n (i := K) (by rw [List.length_map, List.length_append, zerov_len]; omega)), set_map ofQ, zs_set (by omega)]
        rfl
      have tc : T.tst (E.op2 eqS (E.fld 0 0 (E.var 8)) (E.c (.int 0))) [.val (ofP p), .val (ofP d), .val (ofQ m⁻¹), .own (o.map ofQ), .val (nD s.length), .own ((zerov K ++ s.drop K).map ofQ), .no, .val (nD K), .val (ofQ (s.getD K 0)), c9, c10] = .ok (decide (s.getD K 0 = 0)) := tst_ok (op2_ok (fld_ok rfl) rfl (eqS_num _))
      by_cases z : s.getD K 0 = 0
      · rw [adds_0 (by rw [z]; rfl)] at t3
        rw [decide_eq_true z] at tc
        exact .inr ⟨_, (seq_next a1).trans ((seq_next a2).trans (seq_cnt (ite_t tc))), o, _, _, _, _, lo, so.mono (by rw [hsm]; omega), t3, rfl⟩
      · rw [decide_eq_false z] at tc
        obtain ⟨c9', c10', hin⟩ := div_inner (ofP p) (.val (ofQ m⁻¹)) (.val (nD s.length)) (.own ((zerov K ++ s.drop K).map ofQ)) .no c9 c10 (j := K) t2 qc so.ql qd.ql (by
          have : (i' + 1) * (n + 1) ≤ s.length * (n + 1) := Nat.mul_le_mul_right _ (by omega)
          rw [hsm] at this
          omega)
        exact .inl ⟨_, (seq_next a1).trans ((seq_next a2).trans ((seq_next (ite_f tc)).trans hin)), _, _, _, _, _, by rw [adds_len, lo], so'.mono (by rw [hsm]; omega), t3, rfl⟩
  rw [List.length_range, Nat.sub_self, List.take_zero] at st
  rw [List.length_range, Nat.sub_self, List.drop_zero] at e2
  refine (seq_next (e1.trans (by rw [e2]))).trans ?_
  subst hR
  have hi1 := Poly_init_q (r := s) (d := .lst (s.map ofQ)) (.inl rfl) (by omega)
  have hi2 := Poly_init_q (r := o) (d := .lst (o.map ofQ)) (.inl rfl) (by omega)
  rw [trim_eq hs fun _ => rfl] at hi1
  rw [st.final hr] at hi2
  show S.ret (E.tupl (E.cons (E.app (objR 1 f_Poly_init_1) (E.cons (E.var 5) E.nil)) (E.cons (E.app (objR 1 f_Poly_init_1) (E.cons (E.var 3) E.nil)) E.nil))) [.val (ofP p), .val (ofP d), .val (ofQ m⁻¹), .val (.lst (o.map ofQ)), .val (nD s.length), .val (.lst (s.map ofQ)), .no, c7, c8, c9, c10] = _
  refine ret_ok (tupl_ok (cons_ok (app_ok rfl ?_) (cons_ok (app_ok rfl ?_) nil_ok)))
  · unfold objR
    rw [hi1]
    rfl
  · unfold objR
    rw [hi2]
    rfl
theorem Poly_neg_q {p : List Rat} (hl : p.length ≤ 1000) : f_Poly_neg [ofP p] = .ok (ofP (trim (pneg p))) := by
  have cm : E.comp [1] (Z.seq (E.fld 1 0 (E.var 0))) (S.tgt 1) T.yes (E.meth 0 f_Ratio_neg (E.var 1) E.nil) [.val (ofP p), .no] = .ok ((pneg p).map ofQ) := by
    unfold pneg
    rw [List.map_map]
    exact comp_map (enc := ofQ) (fun x => ofQ (-x)) rfl rfl (by omega) fun q hq => ⟨[.val (ofP p), .val (ofQ q)], rfl, rfl, meth_ok rfl nil_ok Ratio_neg_q⟩
  exact runD_ret [.val (ofP p), .no] rfl rfl (ret_ok (app_ok (cons_ok (lst_ok cm) nil_ok) (Poly_make_q (.inl rfl) (by unfold pneg; rw [List.length_map]; exact hl))))
theorem padd_zip : ∀ (p q : List Rat), q.length ≤ p.length → ((p.zip q).map fun c => c.1 + c.2) ++ p.drop q.length = padd p q
  | [], [], _ => rfl
  | a :: p, [], _ => rfl
  | [], b :: q, h => by simp at h
  | a :: p, b :: q, h => by
    rw [padd, ← padd_zip p q (by simpa using h)]
    rfl
theorem cutS_ok2 {f : Env → Res D} {lo hi : Env → Res (Option Int)} {ρ : Env} {xs : List D} {a b : Option Int} (hf : f ρ = .ok (.tup xs)) (hl : lo ρ = .ok a) (hh : hi ρ = .ok b) : E.cutS f lo hi ρ = .ok (.tup (De.cut xs a b)) := by
  unfold E.cutS
  rw [hf, Res.bind_ok, hl, Res.bind_ok, hh]
  rfl
theorem nopart_ok {ρ : Env} : E.nopart ρ = .ok none := rfl
theorem Poly_add_tail {n m : Nat} {x0 x1 : D} {p q : List Rat} (hp : QL n p) (hq : QL m q) (hB : n + m ≤ 100000000) (lp : p.length ≤ 400) (hl : q.length ≤ p.length) :
    S.seq (S.set 4 (E.lst (E.comp [5, 6] (Z.zipS (E.var 2) (E.var 3)) (S.gtup 2 (S.gcons (S.tgt 5) (S.gcons (S.tgt 6) S.gnil))) T.yes (E.own2 0 f_Ratio_add (E.var 5) (E.var 6))))) (S.ret (E.app (objR 1 f_Poly_init_1) (E.cons (E.lst (E.cat (Z.lst (E.var 4)) (Z.seq (E.cutS (E.var 2) (E.part (E.len (Z.seq (E.var 3)))) E.nopart)))) E.nil))) [.val x0, .val x1, .val (rT p), .val (rT q), .no, .no, .no] = .ret (ofP (trim (padd p q))) := by
  have hz : Z.zipS (E.var 2) (E.var 3) [.val x0, .val x1, .val (rT p), .val (rT q), .no, .no, .no] = .ok ((p.zip q).map fun c => .tup [ofQ c.1, ofQ c.2]) := by
    rw [← pairs_map]
    rfl
  have cm : E.comp [5, 6] (Z.zipS (E.var 2) (E.var 3)) (S.gtup 2 (S.gcons (S.tgt 5) (S.gcons (S.tgt 6) S.gnil))) T.yes (E.own2 0 f_Ratio_add (E.var 5) (E.var 6)) [.val x0, .val x1, .val (rT p), .val (rT q), .no, .no, .no] = .ok (((p.zip q).map fun c => c.1 + c.2).map ofQ) := by
    rw [List.map_map]
    refine comp_map (enc := fun c : Rat × Rat => .tup [ofQ c.1, ofQ c.2]) (fun c => ofQ (c.1 + c.2)) hz rfl (by rw [List.length_zip]; omega) fun c hc => ⟨[.val x0, .val x1, .val (rT p), .val (rT q), .no, .val (ofQ c.1), .val (ofQ c.2)], rfl, rfl, own2_ok rfl rfl (Ratio_add_q (hp.mem _ (List.of_mem_zip hc).1) (hq.mem _ (List.of_mem_zip hc).2) hB)⟩
  refine (seq_next (ρ' := [.val x0, .val x1, .val (rT p), .val (rT q), .val (.lst (((p.zip q).map fun c => c.1 + c.2).map ofQ)), .no, .no]) (set_ok (lst_ok cm))).trans ?_
  have hc : E.cat (Z.lst (E.var 4)) (Z.seq (E.cutS (E.var 2) (E.part (E.len (Z.seq (E.var 3)))) E.nopart)) [.val x0, .val x1, .val (rT p), .val (rT q), .val (.lst (((p.zip q).map fun c => c.1 + c.2).map ofQ)), .no, .no] = .ok ((padd p q).map ofQ) := by
    rw [← padd_zip p q hl, List.map_append, List.map_drop]
    refine cat_ok (f := Z.lst (E.var 4)) rfl (seq_of (.inl ?_)) ?_
    · rw [cutS_ok2 (xs := p.map ofQ) rfl (part_ok (len_ok (n := q.length) rfl (List.length_map _))) nopart_ok, cut_from]
    · rw [List.length_map, List.length_map, List.length_zip, List.length_drop, List.length_map]
      omega
  exact ret_ok (app_ok (cons_ok (lst_ok hc) nil_ok) (Poly_make_q (.inl rfl) (by rw [padd_len]; omega)))
theorem padd_comm (p q : List Rat) : trim (padd p q) = trim (padd q p) := trim_eq (trim_tr _) fun x => by rw [ev_trim, ev_padd, ev_padd]; grind
theorem Poly_add_q {n m : Nat} {p q : List Rat} (hp : QL n p) (hq : QL m q) (hB : n + m ≤ 100000000) (lp : p.length ≤ 400) (lq : q.length ≤ 400) : f_Poly_add [ofP p, ofP q] = .ok (ofP (trim (padd p q))) := by
  refine runD_ret [.val (ofP p), .val (ofP q), .no, .no, .no, .no, .no] rfl rfl ?_
  unfold b_Poly_add
  refine (seq_next (ρ' := [.val (ofP p), .val (ofP q), .val (rT p), .val (rT q), .no, .no, .no]) rfl).trans ?_
  have hc : T.tst (E.op2 ltI (E.len (Z.seq (E.var 2))) (E.len (Z.seq (E.var 3)))) [.val (ofP p), .val (ofP q), .val (rT p), .val (rT q), .no, .no, .no] = .ok (decide (p.length < q.length)) := tst_ok (op2_ok (len_ok (n := p.length) rfl (List.length_map _)) (len_ok (n := q.length) rfl (List.length_map _)) ltI_nn)
  by_cases h : p.length < q.length
  · rw [decide_eq_true h] at hc
    refine (seq_next (ρ' := [.val (ofP p), .val (ofP q), .val (rT q), .val (rT p), .no, .no, .no]) (by rw [ite_t hc]; rfl)).trans ?_
    rw [padd_comm]
    exact Poly_add_tail hq hp (by omega) lq (by omega)
  · rw [decide_eq_false h] at hc
    refine (seq_next (ρ' := [.val (ofP p), .val (ofP q), .val (rT p), .val (rT q), .no, .no, .no]) (by rw [ite_f hc]; rfl)).trans ?_
    exact Poly_add_tail hp hq hB lp (by omega)
def psub (p q : List Rat) : List Rat := trim (padd p (pneg q))
theorem ev_psub (p q : List Rat) (x : Rat) : evl (psub p q) x = evl p x - evl q x := by unfold psub; rw [ev_trim, ev_padd, ev_pneg]; grind
theorem psub_tr (p q : List Rat) : Tr (psub p q) := trim_tr _
theorem psub_len (p q : List Rat) : (psub p q).length ≤ max p.length q.length := by
  have := trim_len (padd p (pneg q))
  rw [padd_len] at this
  unfold pneg at this
  rw [List.length_map] at this
  exact this
theorem IB.psub {a b : Nat} {p q : List Rat} (hp : IB a p) (hq : IB b q) : IB (a + b + 1) (De.psub p q) := (hp.padd hq.neg).trim
theorem QL.neg {n : Nat} {p : List Rat} (h : QL n p) : QL n (pneg p) := fun i => by
  have e : (pneg p).getD i 0 = -p.getD i 0 := by
    unfold pneg
    rw [List.getD_eq_getElem?_getD, List.getD_eq_getElem?_getD, List.getElem?_map]
    cases p[i]? with
    | none => show (0 : Rat) = -0; grind
    | some x => rfl
  rw [e]
  exact (h i).neg
theorem Poly_sub_q {n m : Nat} {p q : List Rat} (hm : 1 ≤ m) (hp : QL n p) (hq : QL m q) (hB : n + m ≤ 100000000) (lp : p.length ≤ 400) (lq : q.length ≤ 400) : f_Poly_sub [ofP p, ofP q] = .ok (ofP (psub p q)) := by
  have h1 := Poly_neg_q (p := q) (by omega)
  have lt := trim_len (pneg q)
  have ln : (pneg q).length = q.length := by unfold pneg; rw [List.length_map]
  have h2 := Poly_add_q hp (hq.neg.trim hm) hB lp (by omega)
  rw [show trim (padd p (trim (pneg q))) = psub p q from trim_eq (psub_tr _ _) fun x => by rw [ev_padd, ev_trim, ev_pneg, ev_psub]; grind] at h2
  exact runD_ret [.val (ofP p), .val (ofP q)] rfl rfl (ret_ok (own2_ok rfl (meth_ok rfl nil_ok h1) h2))
theorem Poly_scaled_q {n m : Nat} {p : List Rat} {c : Rat} (hp : QL n p) (hc : Qb m c) (hB : m + n ≤ 100000000) (lp : p.length ≤ 400) : f_Poly_scaled [ofP p, ofQ c] = .ok (ofP (trim (psc c p))) := by
  have cm : E.comp [2] (Z.seq (E.fld 1 0 (E.var 0))) (S.tgt 2) T.yes (E.own2 0 f_Ratio_mul (E.var 1) (E.var 2)) [.val (ofP p), .val (ofQ c), .no] = .ok ((psc c p).map ofQ) := by
    unfold psc
    rw [List.map_map]
    exact comp_map (enc := ofQ) (fun x => ofQ (c * x)) rfl rfl (by omega) fun q hq => ⟨[.val (ofP p), .val (ofQ c), .val (ofQ q)], rfl, rfl, own2_ok rfl rfl (Ratio_mul_q hc (hp.mem q hq) hB)⟩
  exact runD_ret [.val (ofP p), .val (ofQ c), .no] rfl rfl (ret_ok (app_ok (cons_ok (lst_ok cm) nil_ok) (Poly_make_q (.inl rfl) (by unfold psc; rw [List.length_map]; omega))))
theorem psc_tr {p : List Rat} {c : Rat} (hc : c ≠ 0) (hp : Tr p) : Tr (psc c p) := fun a e => by
  unfold psc at e
  rw [List.getLast?_map] at e
  cases q : p.getLast? with
  | none => rw [q] at e; simp at e
  | some b =>
    rw [q] at e
    have e2 : c * b = a := by simpa using e
    rw [← e2]
    intro z
    rcases Rat.mul_eq_zero.1 z with z | z
    · exact hc z
    · exact hp b q z
theorem Poly_monic_q {n : Nat} {p : List Rat} (hn : 1 ≤ n) (ht : Tr p) (hp : QL n p) (hB : 2 * n ≤ 100000000) (lp : p.length ≤ 400) : f_Poly_monic [ofP p] = .ok (ofP (mon p)) := by
  refine runD_ret [.val (ofP p)] rfl rfl ?_
  unfold b_Poly_monic
  by_cases z : p = []
  · subst z
    rfl
  · obtain ⟨p', l, rfl, hl, em, _, _⟩ := mon_of ht z
    have ll : (p' ++ [l]).length = p'.length + 1 := List.length_append
    have ql : Qb n l := hp.mem l (by simp)
    have li : l⁻¹ ≠ 0 := fun z => hl (by grind)
    refine (seq_next (ρ' := [.val (ofP (p' ++ [l]))]) ?_).trans (ret_ok (meth_ok rfl (cons_ok (meth_ok (meth_ok rfl nil_ok (Poly_last_q _ _)) nil_ok (Ratio_inverse_q hl)) nil_ok) ?_))
    · rw [ite_f (tst_ok (op2_ok (len_ok (n := p'.length + 1) rfl (by rw [List.length_map, ll])) rfl (show eqS (nD (p'.length + 1)) (.int 0) = .ok (.bl false) from rfl)))]
      rfl
    · rw [em, ← trim_eq (psc_tr li ht) fun _ => rfl]
      exact Poly_scaled_q hp (ql.inv hn) (by omega) lp
theorem Poly_degree_q {p : List Rat} : f_Poly_degree [ofP p] = .ok (.int ((p.length : Int) - 1)) :=
  runD_ret [.val (ofP p)] rfl rfl (ret_ok (op2_ok (len_ok (n := p.length) rfl (List.length_map _)) rfl (subI_i _ _)))
-- the primitive form
theorem dvd_of_den {q : Rat} {D m : Int} (h : q * (D : Rat) = (m : Rat)) : (q.den : Int) ∣ D := by
  have e1 := den_mul q
  have hd : (q.den : Rat) ≠ 0 := by exact_mod_cast q.den_nz
  have e2 : ((q.num * D : Int) : Rat) = ((m * q.den : Int) : Rat) := by
    rw [Rat.intCast_mul, Rat.intCast_mul, ← e1, ← h, Rat.intCast_natCast]
    grind
  have e3 : q.num * D = m * q.den := by exact_mod_cast e2
  have e4 : (q.den : Int) ∣ q.num * D := ⟨m, by rw [e3, Int.mul_comm]⟩
  have e5 : (q.den) ∣ q.num.natAbs * D.natAbs := by
    have := Int.natAbs_dvd_natAbs.mpr e4
    rw [Int.natAbs_mul] at this
    exact this
  have e6 := (Nat.Coprime.symm q.reduced).dvd_of_dvd_mul_left e5
  exact Int.ofNat_dvd_left.mpr e6
def denL (p : List Rat) : Nat := p.foldl (fun g c => Nat.lcm g c.den) 1
theorem fold_lcm_dvd : ∀ (p : List Rat) (g : Nat), g ∣ p.foldl (fun g c => Nat.lcm g c.den) g ∧ ∀ c ∈ p, c.den ∣ p.foldl (fun g c => Nat.lcm g c.den) g
  | [], g => ⟨Nat.dvd_refl g, fun n h => by simp at h⟩
  | a :: p, g => by
    obtain ⟨h1, h2⟩ := fold_lcm_dvd p (Nat.lcm g a.den)
    refine ⟨Nat.dvd_trans (Nat.dvd_lcm_left _ _) h1, fun n hn => ?_⟩
    rcases List.mem_cons.mp hn with rfl | hn
    · exact Nat.dvd_trans (Nat.dvd_lcm_right _ _) h1
    · exact h2 n hn
theorem fold_lcm_min (M : Nat) : ∀ (p : List Rat) (g : Nat), g ∣ M → (∀ c ∈ p, c.den ∣ M) → p.foldl (fun g c => Nat.lcm g c.den) g ∣ M
  | [], g, h, _ => h
  | a :: p, g, h, k => fold_lcm_min M p _ (Nat.lcm_dvd h (k a (by simp))) fun c hc => k c (by simp [hc])
set_option Elab.async false
set_option linter.all false
set_option maxRecDepth 100000
set_option maxHeartbeats 1000000
-- rows of integers: the primitive form, the rest
open PySem L2
theorem itemI {p : List Int} {j : Nat} (h : j < p.length) : atI (p.map D.int) (j : Int) = some (.int (p.getD j 0)) := draws_ix h
theorem fdivI_ok {i j : Int} (h : j ≠ 0) : fdivI (.int i) (.int j) = .ok (.int (i.fdiv j)) := by rw [fdivI_i, if_neg h]
theorem eqS_0 (i : Int) : eqS (.int i) (.int 0) = .ok (.bl (decide (i = 0))) := eqS_int _ _
def prim (F : List Int) : List Int := if gcdI' (trimI F) < 2 then trimI F else cutI ((gcdI' (trimI F) : Nat) : Int) (trimI F)
theorem trimI_len (F : List Int) : (trimI F).length ≤ F.length := by
  obtain ⟨k, _, e, _⟩ := trimI_pre F
  rw [e, List.length_take]
  omega
theorem NB.trim {b : Nat} {F : List Int} (h : NB b F) : NB b (trimI F) := by
  obtain ⟨k, _, e, _⟩ := trimI_pre F
  rw [e]
  exact h.take k
theorem prim_facts {b : Nat} {F : List Int} (h : NB b F) : TrI (prim F) ∧ NB b (prim F) ∧ (prim F).length ≤ F.length ∧ ∃ c : Rat, c ≠ 0 ∧ ∀ x, evl (iv F) x = c * evl (iv (prim F)) x := by
  have t := trimI_tr F
  have l := trimI_len F
  unfold prim
  split
  · exact ⟨t, h.trim, l, 1, by decide, fun x => by rw [evi_trim]; grind⟩
  · rename_i hg
    have d : ∀ n ∈ trimI F, ((gcdI' (trimI F) : Nat) : Int) ∣ n := fun n hn => gcd_dvd_all hn
    have c0 : (0 : Int) < ((gcdI' (trimI F) : Nat) : Int) := by omega
    exact ⟨t.cut c0 d, h.trim.cut c0 d, by rw [cutI_len]; exact l, _, cast_ne (Int.ne_of_gt c0), fun x => by rw [← cutI_ev (Int.ne_of_gt c0) d, evi_trim]⟩
theorem gcd_take {M : List Int} {j : Nat} (hj : j < M.length) : gcdI' (M.take (j + 1)) = Nat.gcd (gcdI' (M.take j)) (M.getD j 0).natAbs := by
  unfold gcdI'
  rw [List.take_succ_eq_append_getElem hj, List.foldl_append, List.getD_eq_getElem?_getD, List.getElem?_eq_getElem hj]
  rfl
theorem primitive_row_q {F : List Int} (hl : F.length ≤ 1000) : f_primitive_row [.lst (F.map D.int)] = .ok ((prim F).map D.int) := by
  refine runF_ret [.val (.lst (F.map D.int)), .no, .no, .no] rfl rfl ?_
  unfold b_primitive_row
  refine (seq_next (ρ' := [.val (.lst (F.map D.int)), .val (nD F.length), .no, .no]) (set_ok (len_ok rfl (List.length_map _)))).trans ?_
  have c0 : T.and (T.tst (E.op2 gtI (E.var 1) (E.c (.int 0)))) (T.tst (E.op2 eqS (E.ix (Z.seq (E.var 0)) (E.op2 subI (E.var 1) (E.c (.int 1)))) (E.c (.int 0)))) [.val (.lst (F.map D.int)), .val (nD 0), .no, .no] = .ok false := rfl
  have cnd : ∀ a, a + 1 ≤ F.length → T.and (T.tst (E.op2 gtI (E.var 1) (E.c (.int 0)))) (T.tst (E.op2 eqS (E.ix (Z.seq (E.var 0)) (E.op2 subI (E.var 1) (E.c (.int 1)))) (E.c (.int 0)))) [.val (.lst (F.map D.int)), .val (nD (a + 1)), .no, .no] = .ok (decide (F.getD a 0 = 0)) := fun a ha =>
    and_t (tst_ok (op2_ok rfl rfl (gtI_1 a))) (tst_ok (op2_ok (ix_ok (seq_of (.inr rfl)) (op2_ok rfl rfl (subI_1 a)) (itemI (by omega))) rfl (eqS_0 _)))
  obtain ⟨ρ', e1, ⟨a, ha, hz, e2⟩, e3⟩ := while_inv (c := T.and (T.tst (E.op2 gtI (E.var 1) (E.c (.int 0)))) (T.tst (E.op2 eqS (E.ix (Z.seq (E.var 0)) (E.op2 subI (E.var 1) (E.c (.int 1)))) (E.c (.int 0))))) (b := S.set 1 (E.op2 subI (E.var 1) (E.c (.int 1))))
    (fun ρ => ∃ a, a ≤ F.length ∧ (∀ j, a ≤ j → F.getD j 0 = 0) ∧ ρ = [.val (.lst (F.map D.int)), .val (nD a), .no, .no]) (fun ρ => fuelI 1 ρ - 1) (fun ρ ⟨a, ha, hz, e⟩ => by
    subst e
    cases a with
    | zero => exact .inl c0
    | succ a =>
      rw [cnd a ha]
      by_cases z : F.getD a 0 = 0
      · refine .inr ⟨by rw [decide_eq_true z], [.val (.lst (F.map D.int)), .val (nD a), .no, .no], set_ok (op2_ok rfl rfl (subI_1 a)), ⟨a, by omega, fun j hj => ?_, rfl⟩, ?_⟩
        · rcases Nat.lt_or_ge a j with q | q
          · exact hz j q
          · rw [show j = a by omega]; exact z
        · show ((a : Int)).natAbs + 1 - 1 < (((a + 1 : Nat) : Int)).natAbs + 1 - 1
          omega
      · exact .inl (by rw [decide_eq_false z])) (F.length + 1) [.val (.lst (F.map D.int)), .val (nD F.length), .no, .no] ⟨F.length, Nat.le_refl _, fun j hj => by rw [List.getD_eq_getElem?_getD, List.getElem?_eq_none hj]; rfl, rfl⟩ (by show ((F.length : Int)).natAbs + 1 - 1 < _; omega)
  subst e2
  have hend : a = 0 ∨ F.getD (a - 1) 0 ≠ 0 := by
    cases a with
    | zero => exact .inl rfl
    | succ a =>
      rw [cnd a ha] at e3
      exact .inr (of_decide_eq_false (Res.ok.inj e3))
  have et := take_trimI hz hend ha
  have lt : (trimI F).length ≤ F.length := trimI_len F
  refine (seq_next (ρ' := [.val (.lst (F.map D.int)), .val (nD a), .no, .no]) ?_).trans ?_
  · unfold S.whil
    rw [show fuelI 1 [.val (.lst (F.map D.int)), .val (nD F.length), .no, .no] = F.length + 1 by show ((F.length : Int)).natAbs + 1 = _; omega]
    exact e1
  have cutk : ∀ c2 c3 : Cell, E.cutL (Z.lst (E.var 0)) E.nopart (E.part (E.var 1)) [.val (.lst (F.map D.int)), .val (nD a), c2, c3] = .ok ((trimI F).map D.int) := fun c2 c3 => by
    rw [cutL_ok (xs := F.map D.int) (a := none) (b := some (a : Int)) rfl rfl rfl, cut_upto, ← List.map_take, et]
  unfold prim
  generalize trimI F = M at *
  refine (seq_next (ρ' := [.val (.lst (F.map D.int)), .val (nD a), .val (nD 0), .no]) rfl).trans ?_
  obtain ⟨ρ', e4, c3, e5⟩ := forE_ix M (enc := D.int) (g := S.tgt 3) (b := S.set 2 (E.op2 gcdI (E.var 2) (E.var 3))) (fun j ρ => ∃ c3 : Option D, ρ = [.val (.lst (F.map D.int)), .val (nD a), .val (nD (gcdI' (M.take j))), oc c3]) (it := E.cutL (Z.lst (E.var 0)) E.nopart (E.part (E.var 1))) (ρ := [.val (.lst (F.map D.int)), .val (nD a), .val (nD 0), .no]) (cutk _ _) ⟨none, rfl⟩ fun j n ρ hj ⟨c3, e⟩ => by
    subst e
    obtain ⟨h1, h2⟩ := List.getElem?_eq_some_iff.mp hj
    have eg : n = M.getD j 0 := by rw [List.getD_eq_getElem?_getD, hj]; rfl
    refine ⟨[.val (.lst (F.map D.int)), .val (nD a), .val (nD (gcdI' (M.take j))), .val (.int n)], rfl, .inl ⟨_, set_ok (op2_ok rfl rfl (gcdI_i _ _)), some (.int n), ?_⟩⟩
    rw [gcd_take h1, ← eg]
    rfl
  rw [List.take_length] at e5
  refine (seq_next (e4.trans (by rw [e5]))).trans ?_
  have hc : T.tst (E.op2 ltI (E.var 2) (E.c (.int 2))) [.val (.lst (F.map D.int)), .val (nD a), .val (nD (gcdI' M)), oc c3] = .ok (decide (gcdI' M < 2)) := tst_ok (op2_ok rfl rfl (ltI_nn (b := 2)))
  by_cases hg : gcdI' M < 2
  · rw [decide_eq_true hg] at hc
    rw [if_pos hg]
    exact seq_retF (by rw [ite_t hc]; exact retF_ok (cutk _ _))
  · rw [decide_eq_false hg] at hc
    rw [if_neg hg]
    refine (seq_next (ρ' := [.val (.lst (F.map D.int)), .val (nD a), .val (nD (gcdI' M)), oc c3]) (by rw [ite_f hc]; rfl)).trans (retF_ok ?_)
    unfold cutI
    rw [List.map_map]
    have hnz : ((gcdI' M : Nat) : Int) ≠ 0 := by omega
    refine comp_map (enc := D.int) (fun n => D.int (n.fdiv ((gcdI' M : Nat) : Int))) (cutk _ _) (by cases c3 <;> rfl) (by omega) fun n hn => ⟨[.val (.lst (F.map D.int)), .val (nD a), .val (nD (gcdI' M)), .val (.int n)], rfl, rfl, op2_ok rfl rfl (fdivI_ok hnz)⟩
-- one step
theorem rest_step {e b : Nat} {R S' : List Int} {h : Int} (hh : h ≠ 0) (hl : S'.length + 1 ≤ R.length) (hR : NB e R) (hS : NB b (S' ++ [h])) :
    let t := R.getD (R.length - 1) 0
    let g : Int := ((Nat.gcd h.natAbs t.natAbs : Nat) : Int)
    let R2 := subsI (t.fdiv g) (R.length - (S'.length + 1)) (scI (h.fdiv g) R) (S' ++ [h])
    g ≠ 0 ∧ h.fdiv g ≠ 0 ∧ (h.fdiv g).natAbs < 2 ^ b ∧ (t.fdiv g).natAbs < 2 ^ e ∧ R2.length = R.length ∧ R2.getD (R.length - 1) 0 = 0 ∧ NB (e + b + 1) R2 ∧ (∀ x, evl (iv R2) x = ((h.fdiv g : Int) : Rat) * evl (iv R) x - ((t.fdiv g : Int) : Rat) * x ^ (R.length - (S'.length + 1)) * evl (iv (S' ++ [h])) x) := by
  intro t g R2
  have ls : (S' ++ [h]).length = S'.length + 1 := List.length_append
  have g1 : 0 < Nat.gcd h.natAbs t.natAbs := Nat.gcd_pos_of_pos_left _ (Int.natAbs_pos.mpr hh)
  have g0 : 0 < g := by show (0 : Int) < ((Nat.gcd h.natAbs t.natAbs : Nat) : Int); omega
  have d1 : g ∣ h := Int.ofNat_dvd_left.mpr (Nat.gcd_dvd_left _ _)
  have d2 : g ∣ t := Int.ofNat_dvd_left.mpr (Nat.gcd_dvd_right _ _)
  have gh : (S' ++ [h]).getD S'.length 0 = h := by
    rw [List.getD_eq_getElem?_getD, List.getElem?_append_right (Nat.le_refl _), Nat.sub_self]
    rfl
  have hb : h.natAbs < 2 ^ b := by have := hS S'.length; rw [gh] at this; exact this
  have tb : t.natAbs < 2 ^ e := hR _
  have b1 : (h.fdiv g).natAbs < 2 ^ b := Nat.lt_of_le_of_lt (natAbs_fdiv_le h g0 d1) hb
  have b2 : (t.fdiv g).natAbs < 2 ^ e := Nat.lt_of_le_of_lt (natAbs_fdiv_le t g0 d2) tb
  obtain ⟨u, hu⟩ := d1
  obtain ⟨w, hw⟩ := d2
  have e1 : h.fdiv g = u := by rw [hu, Int.mul_fdiv_cancel_left u (Int.ne_of_gt g0)]
  have e2 : t.fdiv g = w := by rw [hw, Int.mul_fdiv_cancel_left w (Int.ne_of_gt g0)]
  have hget : ∀ i, R2.getD i 0 = h.fdiv g * R.getD i 0 - (if R.length - (S'.length + 1) ≤ i ∧ i < R.length - (S'.length + 1) + (S' ++ [h]).length then t.fdiv g * (S' ++ [h]).getD (i - (R.length - (S'.length + 1))) 0 else 0) := fun i => by
    show (subsI _ _ _ _).getD i 0 = _
    rw [subsI_get _ _ _ _ _ (by rw [scI_len, ls]; omega), scI_getD]
  refine ⟨Int.ne_of_gt g0, ?_, b1, b2, by rw [subsI_len, scI_len], ?_, fun i => ?_, fun x => ?_⟩
  · rw [e1]
    intro z
    rw [z, Int.mul_zero] at hu
    exact hh hu
  · rw [hget, if_pos (by rw [ls]; omega), show R.length - 1 - (R.length - (S'.length + 1)) = S'.length by omega, gh, e1, e2]
    show u * t - w * h = 0
    rw [hw]
    conv => lhs; arg 2; rw [hu]
    grind
  · rw [hget]
    split
    · have := sub_lt (n := e + b) (x := h.fdiv g * R.getD i 0) (by rw [Nat.add_comm e b]; exact mul_lt b1 (hR i)) (mul_lt b2 (hS (i - (R.length - (S'.length + 1)))))
      exact this
    · rw [Int.sub_zero]
      exact pow_mono (mul_lt b1 (hR i)) (by omega)
  · show evl (iv (subsI _ _ _ _)) x = _
    rw [ev_subs _ _ _ _ _ (by rw [scI_len, ls]; omega), iv_sc, ev_psc]
set_option Elab.async false
set_option linter.all false
set_option maxRecDepth 100000
set_option maxHeartbeats 1000000
-- rows of integers: the rest
open PySem L2
theorem row_enumI (d : List Int) : d.map D.int = (List.range d.length).map fun k => D.int (d.getD k 0) := by
  refine List.ext_getElem (by rw [List.length_map, List.length_map, List.length_range]) fun i h1 h2 => ?_
  rw [List.length_map] at h1
  rw [List.getElem_map, List.getElem_map, List.getElem_range, List.getD_eq_getElem?_getD, List.getElem?_eq_getElem h1]
  rfl
abbrev iL (p : List Int) : D := .lst (p.map D.int)
theorem irest_inner {e b j : Nat} {f : Int} {R V : List Int} (x0 : D) (c3 c4 c5 : Cell) (o8 o9 : Option D) (hk : j + V.length ≤ R.length) (hf : f.natAbs < 2 ^ e) (hV : NB b V) (hB : e + b ≤ 100000000) :
    ∃ o8' o9' : Option D, S.forE (Z.enum (Z.seq (E.var 1))) (S.gtup 2 (S.gcons (S.tgt 9) (S.gcons (S.tgt 8) S.gnil))) (S.setAt 2 (E.op2 addI (E.var 7) (E.var 9)) (E.op2 subI (E.ix (Z.own 2) (E.op2 addI (E.var 7) (E.var 9))) (E.op2 mulI (E.var 6) (E.var 8)))) [.val x0, .val (iL V), .own (R.map D.int), c3, c4, c5, .val (.int f), .val (nD j), oc o8, oc o9] = .next [.val x0, .val (iL V), .own ((subsI f j R V).map D.int), c3, c4, c5, .val (.int f), .val (nD j), oc o8', oc o9'] := by
  generalize hG : S.setAt 2 _ _ = G1
  obtain ⟨ρ', e1, o8', o9', e2⟩ := forE_ix (List.range V.length) (enc := fun k => D.tup [nD k, .int (V.getD k 0)]) (g := S.gtup 2 (S.gcons (S.tgt 9) (S.gcons (S.tgt 8) S.gnil))) (b := G1) (fun i ρ => ∃ o8 o9 : Option D, ρ = [.val x0, .val (iL V), .own ((subsI f j R (V.take i)).map D.int), c3, c4, c5, .val (.int f), .val (nD j), oc o8, oc o9]) (it := Z.enum (Z.seq (E.var 1))) (ρ := [.val x0, .val (iL V), .own (R.map D.int), c3, c4, c5, .val (.int f), .val (nD j), oc o8, oc o9])
    (enum_ok (α := Nat) (show Z.seq (E.var 1) _ = Res.ok (List.map (fun k => D.int (V.getD k 0)) _) by rw [← row_enumI]; rfl)) ⟨o8, o9, by rw [List.take_zero]; rfl⟩ fun i k ρ hj ⟨o8, o9, e⟩ => by
      subst e
      subst hG
      obtain ⟨rfl, hi⟩ := range_at hj
      rw [subsI_take hi]
      have lo : (subsI f j R (V.take k)).length = R.length := subsI_len _ _ _ _
      generalize subsI f j R (V.take k) = o' at *
      refine ⟨[.val x0, .val (iL V), .own (o'.map D.int), c3, c4, c5, .val (.int f), .val (nD j), .val (.int (V.getD k 0)), .val (nD k)], rfl, .inl ⟨_, setAt_next rfl (op2_ok (ix_ok (q := Z.own 2) rfl (op2_ok rfl rfl (addI_nn _ _)) (itemI (by omega))) (op2_ok rfl rfl (mulok_q hf (hV k) hB)) (subI_i _ _)) (op2_ok rfl rfl (addI_nn _ _)) (ixN_n (by rw [List.length_map]; omega)), some (.int (V.getD k 0)), some (nD k), ?_⟩⟩
      rw [set_map D.int]
      rfl
  rw [List.length_range, List.take_length] at e2
  exact ⟨o8', o9', e2 ▸ e1⟩
abbrev popC : Env → Res Bool := T.and (T.tst (E.op2 gtI (E.len (Z.own 2)) (E.c (.int 0)))) (T.tst (E.op2 eqS (E.ix (Z.own 2) (E.op2 subI (E.len (Z.own 2)) (E.c (.int 1)))) (E.c (.int 0))))
theorem dropLast_take {α : Type} {R : List α} {a : Nat} (h : a + 1 ≤ R.length) : (R.take (a + 1)).dropLast = R.take a := by
  rw [List.take_succ_eq_append_getElem (by omega), List.dropLast_concat]
theorem pop_loop {R : List Int} (x0 x1 : Cell) (t : List Cell) : S.whil (fuelW 2) popC (S.pop 2) (x0 :: x1 :: .own (R.map D.int) :: t) = .next (x0 :: x1 :: .own ((trimI R).map D.int) :: t) := by
  have hlen : ∀ a, a ≤ R.length → E.len (Z.own 2) (x0 :: x1 :: .own ((R.take a).map D.int) :: t) = .ok (nD a) := fun a ha => len_ok rfl (by rw [List.length_map, List.length_take]; omega)
  have c0 : popC (x0 :: x1 :: .own ((R.take 0).map D.int) :: t) = .ok false := and_f (tst_ok (op2_ok (hlen 0 (by omega)) rfl (show gtI (nD 0) (.int 0) = .ok (.bl false) from rfl)))
  have cnd : ∀ a, a + 1 ≤ R.length → popC (x0 :: x1 :: .own ((R.take (a + 1)).map D.int) :: t) = .ok (decide (R.getD a 0 = 0)) := fun a ha => by
    have hi := itemI (p := R.take (a + 1)) (j := a) (by rw [List.length_take]; omega)
    rw [getD_takeI, if_pos (by omega)] at hi
    exact and_t (tst_ok (op2_ok (hlen _ ha) rfl (gtI_1 a))) (tst_ok (op2_ok (ix_ok (q := Z.own 2) rfl (op2_ok (hlen _ ha) rfl (subI_1 a)) hi) rfl (eqS_0 _)))
  obtain ⟨ρ', e1, ⟨a, ha, hz, e2⟩, e3⟩ := while_inv (c := popC) (b := S.pop 2) (fun ρ => ∃ a, a ≤ R.length ∧ (∀ j, a ≤ j → R.getD j 0 = 0) ∧ ρ = x0 :: x1 :: .own ((R.take a).map D.int) :: t) (fun ρ => fuelW 2 ρ - 1) (fun ρ ⟨a, ha, hz, e⟩ => by
    subst e
    cases a with
    | zero => exact .inl c0
    | succ a =>
      rw [cnd a ha]
      by_cases z : R.getD a 0 = 0
      · refine .inr ⟨by rw [decide_eq_true z], x0 :: x1 :: .own ((R.take a).map D.int) :: t, ?_, ⟨a, by omega, fun j hj => ?_, rfl⟩, ?_⟩
        · have hne : (R.take (a + 1)).map D.int ≠ [] := fun h => by
            have := congrArg List.length h
            rw [List.length_map, List.length_take, List.length_nil] at this
            omega
          show (if (R.take (a + 1)).map D.int = [] then Out.stuck else .next (x0 :: x1 :: .own ((R.take (a + 1)).map D.int).dropLast :: t)) = _
          rw [if_neg hne, ← List.map_dropLast, dropLast_take ha]
        · rcases Nat.lt_or_ge a j with q | q
          · exact hz j q
          · rw [show j = a by omega]; exact z
        · show ((R.take a).map D.int).length + 1 - 1 < ((R.take (a + 1)).map D.int).length + 1 - 1
          rw [List.length_map, List.length_map, List.length_take, List.length_take]
          omega
      · exact .inl (by rw [decide_eq_false z])) (R.length + 1) (x0 :: x1 :: .own (R.map D.int) :: t) ⟨R.length, Nat.le_refl _, fun j hj => by rw [List.getD_eq_getElem?_getD, List.getElem?_eq_none hj]; rfl, by rw [List.take_length]⟩ (by show (R.map D.int).length + 1 - 1 < _; rw [List.length_map]; omega)
  subst e2
  have hend : a = 0 ∨ R.getD (a - 1) 0 ≠ 0 := by
    cases a with
    | zero => exact .inl rfl
    | succ a =>
      rw [cnd a ha] at e3
      exact .inr (of_decide_eq_false (Res.ok.inj e3))
  rw [take_trimI hz hend ha]
  unfold S.whil
  rw [show fuelW 2 (x0 :: x1 :: .own (R.map D.int) :: t) = R.length + 1 by show (R.map D.int).length + 1 = _; rw [List.length_map]]
  exact e1
set_option Elab.async false
set_option linter.all false
set_option maxRecDepth 100000
set_option maxHeartbeats 1000000
-- rows of integers: the rest of a division
open PySem L2
theorem geI_nn {a b : Nat} : geI (nD a) (nD b) = .ok (.bl (decide (b ≤ a))) := by
  show Res.ok (D.bl (decide ((b : Int) ≤ (a : Int)))) = _
  congr 2
  exact decide_eq_decide.mpr (by omega)
theorem subI_nn {a b : Nat} (h : b ≤ a) : subI (nD a) (nD b) = .ok (nD (a - b)) := by
  show Res.ok (D.int ((a : Int) - (b : Int))) = Res.ok (D.int ((a - b : Nat) : Int))
  congr 2
  omega
theorem integer_rest_q {a b : Nat} {F V : List Int} (hF : NB a F) (hV : NB b V) (tV : TrI V) (Vn : V ≠ []) (lF : F.length ≤ 400) (lV : V.length ≤ 400) (hB : a + (F.length + 2) * (b + 1) + 2 * b ≤ 90000000) :
    ∃ R : List Int, f_integer_rest [iL F, iL V] = .ok (R.map D.int) ∧ TrI R ∧ R.length < V.length ∧ NB (a + (F.length + 1 - V.length) * (b + 1)) R ∧ ∃ (k c : Rat) (U : List Rat), k ≠ 0 ∧ c ≠ 0 ∧ ∀ x, k * evl (iv F) x = evl U x * evl (iv V) x + c * evl (iv R) x := by
  obtain ⟨V', h, rfl, hh⟩ : ∃ V' h, V = V' ++ [h] ∧ h ≠ 0 := by
    rcases List.eq_nil_or_concat V with e | ⟨p', l, e⟩
    · exact absurd e Vn
    · rw [List.concat_eq_append] at e
      exact ⟨p', l, e, tV l (by rw [e]; simp)⟩
  have lv : (V' ++ [h]).length = V'.length + 1 := List.length_append
  have gh : (V' ++ [h]).getD V'.length 0 = h := by
    rw [List.getD_eq_getElem?_getD, List.getElem?_append_right (Nat.le_refl _), Nat.sub_self]
    rfl
  have hlV : E.len (Z.seq (E.var 1)) = E.len (Z.seq (E.var 1)) := rfl
  suffices key : ∃ (R : List Int) (k : Rat) (U : List Rat) (o4 o5 o6 o7 o8 o9 : Option D), S.whil (fuelW 2) (T.tst (E.op2 geI (E.len (Z.own 2)) (E.len (Z.seq (E.var 1)))))
      (S.seq (S.set 4 (E.op2 gcdI (E.var 3) (E.ix (Z.own 2) (E.op2 subI (E.len (Z.own 2)) (E.c (.int 1))))))
      (S.seq (S.set 5 (E.op2 fdivI (E.var 3) (E.var 4)))
      (S.seq (S.set 6 (E.op2 fdivI (E.ix (Z.own 2) (E.op2 subI (E.len (Z.own 2)) (E.c (.int 1)))) (E.var 4)))
      (S.seq (S.set 7 (E.op2 subI (E.len (Z.own 2)) (E.len (Z.seq (E.var 1)))))
      (S.seq (S.setF 2 (E.comp [8] (Z.own 2) (S.tgt 8) T.yes (E.op2 mulI (E.var 5) (E.var 8))))
      (S.seq (S.forE (Z.enum (Z.seq (E.var 1))) (S.gtup 2 (S.gcons (S.tgt 9) (S.gcons (S.tgt 8) S.gnil)))
      (S.setAt 2 (E.op2 addI (E.var 7) (E.var 9)) (E.op2 subI (E.ix (Z.own 2) (E.op2 addI (E.var 7) (E.var 9))) (E.op2 mulI (E.var 6) (E.var 8)))))
      (S.whil (fuelW 2) popC (S.pop 2)))))))) [.val (iL F), .val (iL (V' ++ [h])), .own (F.map D.int), .val (.int h), .no, .no, .no, .no, .no, .no] = .next [.val (iL F), .val (iL (V' ++ [h])), .own (R.map D.int), .val (.int h), oc o4, oc o5, oc o6, oc o7, oc o8, oc o9] ∧ R.length < V'.length + 1 ∧ R.length ≤ F.length ∧ NB (a + (F.length + 1 - (V'.length + 1)) * (b + 1)) R ∧ k ≠ 0 ∧ ∀ x, k * evl (iv F) x = evl U x * evl (iv (V' ++ [h])) x + evl (iv R) x by
    obtain ⟨R, k, U, o4, o5, o6, o7, o8, o9, e1, hl, hl2, hN, hk, he⟩ := key
    obtain ⟨p1, p2, p3, c, p4, p5⟩ := prim_facts hN
    refine ⟨prim R, ?_, p1, by omega, by rw [lv]; exact p2, k, c, U, hk, p4, fun x => by rw [he, p5]⟩
    refine runF_ret [.val (iL F), .val (iL (V' ++ [h])), .no, .no, .no, .no, .no, .no, .no, .no] rfl rfl ?_
    unfold b_integer_rest
    refine (seq_next (ρ' := [.val (iL F), .val (iL (V' ++ [h])), .own (F.map D.int), .no, .no, .no, .no, .no, .no, .no]) rfl).trans ?_
    have hi := itemI (p := V' ++ [h]) (j := V'.length) (by omega)
    rw [gh] at hi
    refine (seq_next (ρ' := [.val (iL F), .val (iL (V' ++ [h])), .own (F.map D.int), .val (.int h), .no, .no, .no, .no, .no, .no]) (set_ok (ix_ok (seq_of (.inr rfl)) (op2_ok (len_ok (n := V'.length + 1) rfl (by rw [List.length_map, lv])) rfl (subI_1 _)) hi))).trans ?_
    refine (seq_next e1).trans ?_
    show S.retF (E.appF f_primitive_row (E.cons (E.var 2) E.nil)) [.val (iL F), .val (iL (V' ++ [h])), .val (iL R), .val (.int h), oc o4, oc o5, oc o6, oc o7, oc o8, oc o9] = _
    exact retF_ok (appF_ok (cons_ok rfl nil_ok) (primitive_row_q (by omega)))
  generalize hG : S.seq (S.set 4 _) _ = G1
  have hlen : ∀ (R : List Int) (c4 c5 c6 c7 c8 c9 : Cell), E.len (Z.own 2) [.val (iL F), .val (iL (V' ++ [h])), .own (R.map D.int), .val (.int h), c4, c5, c6, c7, c8, c9] = .ok (nD R.length) := fun R _ _ _ _ _ _ => len_ok rfl (List.length_map _)
  have hlen2 : ∀ (R : List Int) (c4 c5 c6 c7 c8 c9 : Cell), E.len (Z.seq (E.var 1)) [.val (iL F), .val (iL (V' ++ [h])), .own (R.map D.int), .val (.int h), c4, c5, c6, c7, c8, c9] = .ok (nD (V'.length + 1)) := fun R _ _ _ _ _ _ => len_ok rfl (by rw [List.length_map, lv])
  have hcond : ∀ (R : List Int) (c4 c5 c6 c7 c8 c9 : Cell), T.tst (E.op2 geI (E.len (Z.own 2)) (E.len (Z.seq (E.var 1)))) [.val (iL F), .val (iL (V' ++ [h])), .own (R.map D.int), .val (.int h), c4, c5, c6, c7, c8, c9] = .ok (decide (V'.length + 1 ≤ R.length)) := fun R _ _ _ _ _ _ => tst_ok (op2_ok (hlen _ _ _ _ _ _ _) (hlen2 _ _ _ _ _ _ _) geI_nn)
  obtain ⟨ρ', e1, ⟨R, c, k, U, o4, o5, o6, o7, o8, o9, q1, q2, q3, q4, q5, q6, e2⟩, e3⟩ := while_inv (c := T.tst (E.op2 geI (E.len (Z.own 2)) (E.len (Z.seq (E.var 1))))) (b := G1)
    (fun ρ => ∃ (R : List Int) (c : Nat) (k : Rat) (U : List Rat) (o4 o5 o6 o7 o8 o9 : Option D), c + R.length ≤ F.length ∧ c ≤ F.length + 1 - (V'.length + 1) ∧ NB (a + c * (b + 1)) R ∧ k ≠ 0 ∧ (∀ x, k * evl (iv F) x = evl U x * evl (iv (V' ++ [h])) x + evl (iv R) x) ∧ True ∧ ρ = [.val (iL F), .val (iL (V' ++ [h])), .own (R.map D.int), .val (.int h), oc o4, oc o5, oc o6, oc o7, oc o8, oc o9])
    (fun ρ => fuelW 2 ρ - 1) (fun ρ ⟨R, c, k, U, o4, o5, o6, o7, o8, o9, q1, q2, q3, q4, q5, _, e⟩ => by
      subst e
      rw [hcond]
      by_cases hl : V'.length + 1 ≤ R.length
      · obtain ⟨s1, s2, s3, s4, s5, s6, s7, s8⟩ := rest_step hh hl q3 hV
        have hsm : (c + 1) * (b + 1) = c * (b + 1) + (b + 1) := Nat.succ_mul _ _
        have hcF : (c + 1) * (b + 1) ≤ (F.length + 2) * (b + 1) := Nat.mul_le_mul_right _ (by omega)
        obtain ⟨r, hr⟩ : ∃ r, R.length = r + 1 := ⟨R.length - 1, by omega⟩
        have hi := itemI (p := R) (j := r) (by omega)
        rw [hr, show r + 1 - 1 = r by omega] at s1 s2 s3 s4 s5 s6 s7 s8
        generalize hg : ((Nat.gcd h.natAbs (R.getD r 0).natAbs : Nat) : Int) = g at s1 s2 s3 s4 s5 s6 s7 s8
        have eg : gcdI (.int h) (.int (R.getD r 0)) = .ok (.int g) := by rw [gcdI_i, hg]
        have lR3 : (trimI (subsI ((R.getD r 0).fdiv g) (r + 1 - (V'.length + 1)) (scI (h.fdiv g) R) (V' ++ [h]))).length < R.length := by
          obtain ⟨m, m1, m2, m3⟩ := trimI_pre (subsI ((R.getD r 0).fdiv g) (r + 1 - (V'.length + 1)) (scI (h.fdiv g) R) (V' ++ [h]))
          have tt := trimI_tr (subsI ((R.getD r 0).fdiv g) (r + 1 - (V'.length + 1)) (scI (h.fdiv g) R) (V' ++ [h]))
          rw [m2] at tt ⊢
          rw [List.length_take]
          rcases Nat.lt_or_ge m R.length with z | z
          · omega
          · exfalso
            rw [s5] at m1
            have em : m = r + 1 := by omega
            refine tt 0 ?_ rfl
            rw [List.getLast?_eq_getElem?, List.length_take, s5, em, Nat.min_self, List.getElem?_take_of_lt (by omega), show r + 1 - 1 = r by omega, List.getElem?_eq_getElem (by omega)]
            rw [List.getD_eq_getElem?_getD, List.getElem?_eq_getElem (by omega)] at s6
            exact congrArg some s6
        obtain ⟨o8', o9', hin⟩ := irest_inner (e := a + c * (b + 1)) (j := r + 1 - (V'.length + 1)) (f := (R.getD r 0).fdiv g) (R := scI (h.fdiv g) R) (iL F) (.val (.int h)) (.val (.int g)) (.val (.int (h.fdiv g))) o8 o9 (by rw [scI_len, lv]; omega) s4 hV (by omega)
        refine .inr ⟨by rw [decide_eq_true hl], [.val (iL F), .val (iL (V' ++ [h])), .own ((trimI (subsI ((R.getD r 0).fdiv g) (r + 1 - (V'.length + 1)) (scI (h.fdiv g) R) (V' ++ [h]))).map D.int), .val (.int h), .val (.int g), .val (.int (h.fdiv g)), .val (.int ((R.getD r 0).fdiv g)), .val (nD (r + 1 - (V'.length + 1))), oc o8', oc o9'], ?_, ?_, ?_⟩
        · subst hG
          have hlr := fun c4 c5 c6 c7 c8 c9 => hlen R c4 c5 c6 c7 c8 c9
          rw [hr] at hlr
          refine (seq_next (ρ' := [.val (iL F), .val (iL (V' ++ [h])), .own (R.map D.int), .val (.int h), .val (.int g), oc o5, oc o6, oc o7, oc o8, oc o9]) (set_ok (op2_ok rfl (ix_ok (q := Z.own 2) rfl (op2_ok (hlr _ _ _ _ _ _) rfl (subI_1 _)) hi) eg))).trans ?_
          refine (seq_next (ρ' := [.val (iL F), .val (iL (V' ++ [h])), .own (R.map D.int), .val (.int h), .val (.int g), .val (.int (h.fdiv g)), oc o6, oc o7, oc o8, oc o9]) (set_ok (op2_ok rfl rfl (fdivI_ok s1)))).trans ?_
          refine (seq_next (ρ' := [.val (iL F), .val (iL (V' ++ [h])), .own (R.map D.int), .val (.int h), .val (.int g), .val (.int (h.fdiv g)), .val (.int ((R.getD r 0).fdiv g)), oc o7, oc o8, oc o9]) (set_ok (op2_ok (ix_ok (q := Z.own 2) rfl (op2_ok (hlr _ _ _ _ _ _) rfl (subI_1 _)) hi) rfl (fdivI_ok s1)))).trans ?_
          refine (seq_next (ρ' := [.val (iL F), .val (iL (V' ++ [h])), .own (R.map D.int), .val (.int h), .val (.int g), .val (.int (h.fdiv g)), .val (.int ((R.getD r 0).fdiv g)), .val (nD (r + 1 - (V'.length + 1))), oc o8, oc o9]) (set_ok (op2_ok (hlr _ _ _ _ _ _) (hlen2 _ _ _ _ _ _ _) (subI_nn (by omega))))).trans ?_
          refine (seq_next (ρ' := [.val (iL F), .val (iL (V' ++ [h])), .own ((scI (h.fdiv g) R).map D.int), .val (.int h), .val (.int g), .val (.int (h.fdiv g)), .val (.int ((R.getD r 0).fdiv g)), .val (nD (r + 1 - (V'.length + 1))), oc o8, oc o9]) (setF_ok ?_)).trans ?_
          · unfold scI
            rw [List.map_map]
            refine comp_map (enc := D.int) (fun n => D.int (h.fdiv g * n)) rfl (by cases o8 <;> rfl) (by omega) fun n hn => ⟨[.val (iL F), .val (iL (V' ++ [h])), .own (R.map D.int), .val (.int h), .val (.int g), .val (.int (h.fdiv g)), .val (.int ((R.getD r 0).fdiv g)), .val (nD (r + 1 - (V'.length + 1))), .val (.int n), oc o9], by cases o8 <;> rfl, rfl, op2_ok rfl rfl ?_⟩
            obtain ⟨i, hi2, en⟩ := List.getElem_of_mem hn
            have nb := q3 i
            rw [List.getD_eq_getElem?_getD, List.getElem?_eq_getElem hi2, Option.getD_some, en] at nb
            exact mulok_q s3 nb (by omega)
          · exact (seq_next hin).trans (pop_loop _ _ _)
        · refine ⟨_, c + 1, ((h.fdiv g : Int) : Rat) * k, padd (psc ((h.fdiv g : Int) : Rat) U) (List.replicate (r + 1 - (V'.length + 1)) 0 ++ [(((R.getD r 0).fdiv g : Int) : Rat)]), some (.int g), some (.int (h.fdiv g)), some (.int ((R.getD r 0).fdiv g)), some (nD (r + 1 - (V'.length + 1))), o8', o9', by omega, by omega, (s7.trim).mono (by rw [hsm]; omega), ?_, fun x => ?_, trivial, rfl⟩
          · intro z
            rcases Rat.mul_eq_zero.1 z with z | z
            · exact cast_ne s2 z
            · exact q4 z
          · rw [evi_trim, s8, ev_padd, ev_psc, ev_append, ev_zeros, List.length_replicate, ev_cons, ev_nil]
            have := q5 x
            grind
        · show ((trimI _).map D.int).length + 1 - 1 < (R.map D.int).length + 1 - 1
          rw [List.length_map, List.length_map]
          omega
      · exact .inl (by rw [decide_eq_false hl])) (F.length + 1) [.val (iL F), .val (iL (V' ++ [h])), .own (F.map D.int), .val (.int h), .no, .no, .no, .no, .no, .no] ⟨F, 0, 1, [], none, none, none, none, none, none, by omega, by omega, hF.mono (by omega), by decide, fun x => by rw [ev_nil]; grind, trivial, rfl⟩ (by show (F.map D.int).length + 1 - 1 < _; rw [List.length_map]; omega)
  subst e2
  rw [hcond] at e3
  have hlt := of_decide_eq_false (Res.ok.inj e3)
  refine ⟨R, k, U, o4, o5, o6, o7, o8, o9, ?_, by omega, by omega, q3.mono ?_, q4, q5⟩
  · unfold S.whil
    rw [show fuelW 2 [.val (iL F), .val (iL (V' ++ [h])), .own (F.map D.int), .val (.int h), .no, .no, .no, .no, .no, .no] = F.length + 1 by show (F.map D.int).length + 1 = _; rw [List.length_map]]
    exact e1
  · have : c * (b + 1) ≤ (F.length + 1 - (V'.length + 1)) * (b + 1) := Nat.mul_le_mul_right _ q2
    omega
set_option Elab.async false
set_option linter.all false
set_option maxRecDepth 100000
set_option maxHeartbeats 1000000
-- Poly.primitive
open PySem L2
theorem lcmI_ok {i j : Int} {b : Nat} (h1 : i.natAbs < 2 ^ b) (h2 : j.natAbs < 2 ^ b) (hb : b ≤ 12000) : lcmI (.int i) (.int j) = .ok (.int ((Nat.lcm i.natAbs j.natAbs : Nat) : Int)) := by
  unfold lcmI intD
  dsimp only
  rw [if_pos (show LcmOk i j from ⟨Nat.le_trans (bits_le h1) (by omega), Nat.le_trans (bits_le h2) (by omega)⟩)]
theorem denL_take {p : List Rat} {j : Nat} (hj : j < p.length) : denL (p.take (j + 1)) = Nat.lcm (denL (p.take j)) (p.getD j 0).den := by
  unfold denL
  rw [List.take_succ_eq_append_getElem hj, List.foldl_append, List.getD_eq_getElem?_getD, List.getElem?_eq_getElem hj]
  rfl
theorem denL_dvd {p : List Rat} {M : Nat} (h : ∀ c ∈ p, c.den ∣ M) (j : Nat) : denL (p.take j) ∣ M := fold_lcm_min M _ _ (Nat.one_dvd _) fun c hc => h c (List.mem_of_mem_take hc)
def numL (p : List Rat) (s : Nat) : List Int := p.map fun c => c.num * ((s : Int).fdiv (c.den : Int))
theorem numL_get {p : List Rat} {s : Nat} {i : Nat} : (numL p s).getD i 0 = (p.getD i 0).num * ((s : Int).fdiv ((p.getD i 0).den : Int)) := by
  unfold numL
  rw [List.getD_eq_getElem?_getD, List.getD_eq_getElem?_getD, List.getElem?_map]
  cases p[i]? with
  | none => show (0 : Int) = (0 : Rat).num * _; rw [num_0, Int.zero_mul]
  | some x => rfl
theorem numL_cast {q : Rat} {s : Nat} (h : q.den ∣ s) : ((q.num * ((s : Int).fdiv (q.den : Int)) : Int) : Rat) = q * (s : Rat) := by
  obtain ⟨t, rfl⟩ := h
  have e : (((q.den * t : Nat) : Int)).fdiv (q.den : Int) = (t : Int) := by
    rw [Int.natCast_mul]
    exact Int.mul_fdiv_cancel_left _ (den_ne q)
  rw [e, Rat.intCast_mul, ← den_mul q, Rat.natCast_mul, Rat.intCast_natCast]
  grind
structure Prm (b : Nat) (p : List Rat) (r : Rat) (N : List Int) : Prop where
  r0 : r ≠ 0
  len : N.length = p.length
  eq : ∀ i, p.getD i 0 = r * ((N.getD i 0 : Int) : Rat)
  nb : NB b N
  one : ∀ d : Nat, (∀ n ∈ N, d ∣ n.natAbs) → d = 1
  pos : ∀ l, N.getLast? = some l → 0 < l
  qb : Qb b r
theorem Prm.ev {b : Nat} {p : List Rat} {r : Rat} {N : List Int} (h : Prm b p r N) (x : Rat) : evl p x = r * evl (iv N) x := by
  rw [← ev_psc]
  congr 1
  refine List.ext_getElem (by unfold psc; rw [List.length_map, iv_len, h.len]) fun i h1 h2 => ?_
  have := h.eq i
  rw [← iv_getD, ← psc_getD, List.getD_eq_getElem?_getD, List.getD_eq_getElem?_getD, List.getElem?_eq_getElem h1, List.getElem?_eq_getElem h2] at this
  exact this
theorem Poly_primitive_q {b : Nat} {p : List Rat} (ht : Tr p) (hn : p ≠ []) (hp : IB b p) (hb : b ≤ 12000) (lp : p.length ≤ 400) : ∃ (r : Rat) (N : List Int), Prm b p r N ∧ f_Poly_primitive [ofP p] = .ok (.tup [ofQ r, .tup (N.map D.int)]) := by
  obtain ⟨D0, h0, h1, h2⟩ := hp
  have hq : QL b p := IB.ql ⟨D0, h0, h1, h2⟩
  have hD : ∀ c ∈ p, c.den ∣ D0.natAbs := fun c hc => by
    obtain ⟨i, hi, e⟩ := List.getElem_of_mem hc
    obtain ⟨m, h3, h4⟩ := h2 i
    rw [List.getD_eq_getElem?_getD, List.getElem?_eq_getElem hi, Option.getD_some, e] at h4
    exact Int.ofNat_dvd_left.mp (dvd_of_den h4)
  have hD0 : 0 < D0.natAbs := Int.natAbs_pos.mpr h0
  have sb : ∀ j, denL (p.take j) < 2 ^ b := fun j => Nat.lt_of_le_of_lt (Nat.le_of_dvd hD0 (denL_dvd hD j)) h1
  generalize hs : denL p = s
  have sbb : s < 2 ^ b := by have := sb p.length; rw [List.take_length, hs] at this; exact this
  have hsd : s ∣ D0.natAbs := by have := denL_dvd hD p.length; rw [List.take_length, hs] at this; exact this
  have hs0 : 0 < s := Nat.pos_of_dvd_of_pos hsd hD0
  have hds : ∀ i, (p.getD i 0).den ∣ s := fun i => by
    rw [List.getD_eq_getElem?_getD]
    cases e : p[i]? with
    | none => exact Nat.one_dvd s
    | some x => rw [← hs]; exact (fold_lcm_dvd p 1).2 x (List.mem_of_getElem? e)
  have hM : ∀ i, (((numL p s).getD i 0 : Int) : Rat) = p.getD i 0 * (s : Rat) := fun i => by rw [numL_get, numL_cast (hds i)]
  have lM : (numL p s).length = p.length := List.length_map _
  have nbM : NB b (numL p s) := fun i => by
    obtain ⟨m, h3, h4⟩ := h2 i
    obtain ⟨u, hu⟩ := hsd
    have e1 : ((((numL p s).getD i 0).natAbs * u : Nat)) = m.natAbs := by
      have e2 : D0.natAbs = s * u := hu
      have hs' : (D0 : Rat) = (s : Rat) * (u : Rat) ∨ (D0 : Rat) = -((s : Rat) * (u : Rat)) := by
        rcases Int.natAbs_eq D0 with z | z
        · left; rw [z, e2, Rat.intCast_natCast, Rat.natCast_mul]
        · right; rw [z, e2, Rat.intCast_neg, Rat.intCast_natCast, Rat.natCast_mul]
      rcases hs' with z | z
      · have : ((((numL p s).getD i 0) * (u : Int) : Int) : Rat) = (m : Rat) := by
          rw [Rat.intCast_mul, hM, ← h4, z, Rat.intCast_natCast]
          grind
        have e3 : ((numL p s).getD i 0) * (u : Int) = m := by exact_mod_cast this
        rw [← e3, Int.natAbs_mul]
        rfl
      · have : (((-((numL p s).getD i 0)) * (u : Int) : Int) : Rat) = (m : Rat) := by
          rw [Rat.intCast_mul, Rat.intCast_neg, hM, ← h4, z, Rat.intCast_natCast]
          grind
        have e3 : (-((numL p s).getD i 0)) * (u : Int) = m := by exact_mod_cast this
        rw [← e3, Int.natAbs_mul, Int.natAbs_neg]
        rfl
    have hu0 : 0 < u := by
      rcases Nat.eq_zero_or_pos u with z | z
      · rw [z, Nat.mul_zero] at hu; omega
      · exact z
    refine Nat.lt_of_le_of_lt ?_ h3
    rw [← e1]
    exact Nat.le_mul_of_pos_right _ hu0
  obtain ⟨p', l, rfl, hl⟩ := ht.split hn
  have ll : (p' ++ [l]).length = p'.length + 1 := List.length_append
  have gl : (p' ++ [l]).getD p'.length 0 = l := by
    rw [List.getD_eq_getElem?_getD, List.getElem?_append_right (Nat.le_refl _), Nat.sub_self]
    rfl
  have sR : (s : Rat) ≠ 0 := by
    have : (s : Int) ≠ 0 := by omega
    have := cast_ne this
    rw [Rat.intCast_natCast] at this
    exact this
  have ml : (numL (p' ++ [l]) s).getD p'.length 0 ≠ 0 := fun z => by
    have := hM p'.length
    rw [z, gl] at this
    rcases Rat.mul_eq_zero.1 this.symm with z | z
    · exact hl z
    · exact sR z
  generalize hg : gcdI' (numL (p' ++ [l]) s) = g
  have hgd : ∀ n ∈ numL (p' ++ [l]) s, ((g : Nat) : Int) ∣ n := fun n hn => by rw [← hg]; exact gcd_dvd_all hn
  have g0 : 0 < g := by
    rcases Nat.eq_zero_or_pos g with z | z
    · exfalso
      have := hgd _ (mem_of_getD ml)
      rw [z] at this
      exact ml (Int.zero_dvd.mp this)
    · exact z
  -- the sign
  have hc : ∃ c : Int, c.natAbs = g ∧ c ≠ 0 ∧ (if l.num < 0 then -(g : Int) else (g : Int)) = c ∧ 0 < ((numL (p' ++ [l]) s).getD p'.length 0).fdiv c := by
    have hnum : (numL (p' ++ [l]) s).getD p'.length 0 = l.num * ((s : Int).fdiv (l.den : Int)) := by rw [numL_get, gl]
    have hd0 : 0 < (s : Int).fdiv (l.den : Int) := by
      obtain ⟨t, e⟩ := hds p'.length
      rw [gl] at e
      rw [e, Int.natCast_mul, Int.mul_fdiv_cancel_left _ (den_ne l)]
      rcases Nat.eq_zero_or_pos t with z | z
      · rw [z, Nat.mul_zero] at e; omega
      · omega
    obtain ⟨t, et⟩ := hgd _ (mem_of_getD ml)
    by_cases z : l.num < 0
    · refine ⟨-(g : Int), by omega, by omega, by rw [if_pos z], ?_⟩
      have e2 : ((numL (p' ++ [l]) s).getD p'.length 0).fdiv (-(g : Int)) = -t := by
        rw [et, show (g : Int) * t = -(g : Int) * -t by grind]
        exact Int.mul_fdiv_cancel_left _ (by omega)
      rw [e2]
      have neg : (numL (p' ++ [l]) s).getD p'.length 0 < 0 := by rw [hnum]; exact Int.mul_neg_of_neg_of_pos z hd0
      rw [et] at neg
      rcases Int.lt_or_le t 0 with q | q
      · omega
      · have := Int.mul_nonneg (show (0 : Int) ≤ (g : Int) by omega) q
        omega
    · have z2 : 0 < l.num := by have := num_ne hl; omega
      refine ⟨(g : Int), by omega, by omega, by rw [if_neg z], ?_⟩
      have e2 : ((numL (p' ++ [l]) s).getD p'.length 0).fdiv (g : Int) = t := by rw [et, Int.mul_fdiv_cancel_left _ (by omega)]
      rw [e2]
      have pos : 0 < (numL (p' ++ [l]) s).getD p'.length 0 := by rw [hnum]; exact Int.mul_pos z2 hd0
      rw [et] at pos
      rcases Int.lt_or_le 0 t with q | q
      · exact q
      · have := Int.mul_nonpos_of_nonneg_of_nonpos (show (0 : Int) ≤ (g : Int) by omega) q
        omega
  obtain ⟨c, c1, c2, c3, c4⟩ := hc
  have hcd : ∀ n ∈ numL (p' ++ [l]) s, c ∣ n := fun n hn => by
    have := hgd n hn
    rw [← c1] at this
    exact Int.natAbs_dvd.mp this
  have gb : g < 2 ^ b := by
    have h := Int.natAbs_dvd_natAbs.mpr (hgd _ (mem_of_getD ml))
    exact Nat.lt_of_le_of_lt (Nat.le_of_dvd (Int.natAbs_pos.mpr ml) h) (nbM p'.length)
  refine ⟨Rat.divInt c (s : Int), cutI c (numL (p' ++ [l]) s), ⟨?_, by rw [cutI_len, lM], fun i => ?_, fun i => ?_, fun d hd => ?_, fun m hm => ?_, .divInt (by rw [c1]; exact gb) sbb (by omega)⟩, ?_⟩
  · rw [Rat.divInt_eq_div, Rat.intCast_natCast]
    intro z
    have hcR := cast_ne c2
    apply hcR
    grind
  · have e1 := hM i
    rw [cutI_getD, Rat.divInt_eq_div, Rat.intCast_natCast]
    by_cases z : (numL (p' ++ [l]) s).getD i 0 = 0
    · rw [z] at e1 ⊢
      rw [Int.zero_fdiv]
      have : (p' ++ [l]).getD i 0 = 0 := by
        rcases Rat.mul_eq_zero.1 e1.symm with z | z
        · exact z
        · exact absurd z sR
      rw [this, show ((0 : Int) : Rat) = 0 from rfl, Rat.mul_zero]
    · obtain ⟨t, et⟩ := hcd _ (mem_of_getD z)
      rw [et, Int.mul_fdiv_cancel_left t c2]
      rw [et, Rat.intCast_mul] at e1
      have hcR := cast_ne c2
      grind
  · rw [cutI_getD]
    by_cases z : (numL (p' ++ [l]) s).getD i 0 = 0
    · rw [z, Int.zero_fdiv]; exact Nat.two_pow_pos b
    · obtain ⟨t, et⟩ := hcd _ (mem_of_getD z)
      have := nbM i
      rw [et] at this ⊢
      rw [Int.mul_fdiv_cancel_left t c2]
      rw [Int.natAbs_mul] at this
      exact Nat.lt_of_le_of_lt (Nat.le_mul_of_pos_left _ (Int.natAbs_pos.mpr c2)) this
  · have h3 : (d * g) ∣ g := by
      conv => rhs; rw [← hg]
      refine fold_gcd_max _ _ _ (Nat.dvd_zero _) fun n hn => ?_
      obtain ⟨t, et⟩ := hcd n hn
      have hdt := hd t (by
        unfold cutI
        refine List.mem_map.mpr ⟨n, hn, ?_⟩
        rw [et, Int.mul_fdiv_cancel_left t c2])
      rw [et, Int.natAbs_mul, c1, Nat.mul_comm]
      exact Nat.mul_dvd_mul_left g hdt
    have h4 : d * g ≤ 1 * g := by rw [Nat.one_mul]; exact Nat.le_of_dvd g0 h3
    have h5 := Nat.le_of_mul_le_mul_right h4 g0
    rcases Nat.eq_zero_or_pos d with z | z
    · subst z
      rw [Nat.zero_mul] at h3
      have := Nat.zero_dvd.mp h3
      omega
    · omega
  · have e5 : cutI c (numL (p' ++ [l]) s) = cutI c (numL p' s) ++ [(l.num * ((s : Int).fdiv (l.den : Int))).fdiv c] := by
      unfold cutI numL
      rw [List.map_append, List.map_append]
      rfl
    rw [e5, List.getLast?_append] at hm
    simp at hm
    rw [← hm]
    rw [numL_get, gl] at c4
    exact c4
  · have hlast := Poly_last_q p' l
    generalize hP : p' ++ [l] = P at *
    refine runD_ret [.val (ofP P), .no, .no, .no, .no] rfl rfl ?_
    unfold b_Poly_primitive
    refine (seq_next (ρ' := [.val (ofP P), .val (nD 1), .val (nD 0), .no, .no]) rfl).trans ?_
    generalize hA : S.set 1 (E.op2 lcmI _ _) = A
    generalize hBd : S.set 2 (E.op2 gcdI _ _) = B
    obtain ⟨ρ', e1, o3, e2⟩ := forE_ix P (enc := ofQ) (g := S.tgt 3) (b := A) (fun j ρ => ∃ o3 : Option D, ρ = [.val (ofP P), .val (nD (denL (P.take j))), .val (nD 0), oc o3, .no]) (it := Z.seq (E.fld 1 0 (E.var 0))) (ρ := [.val (ofP P), .val (nD 1), .val (nD 0), .no, .no]) rfl ⟨none, rfl⟩ fun j q ρ hj ⟨o3, e⟩ => by
      subst e
      subst hA
      obtain ⟨i1, i2⟩ := List.getElem?_eq_some_iff.mp hj
      have eq : q = P.getD j 0 := by rw [List.getD_eq_getElem?_getD, hj]; rfl
      refine ⟨[.val (ofP P), .val (nD (denL (P.take j))), .val (nD 0), .val (ofQ q), .no], by cases o3 <;> rfl, .inl ⟨_, set_ok (op2_ok rfl (fld_ok rfl) (lcmI_ok (b := b) (sb j) (by rw [eq]; exact (hq j).den) hb)), some (ofQ q), ?_⟩⟩
      rw [denL_take i1, ← eq]
      rfl
    rw [List.take_length, hs] at e2
    refine (seq_next (e1.trans (by rw [e2]))).trans ?_
    have item : ∀ (j : Nat) (q : Rat) (c2 c4 : Cell), P[j]? = some q → E.op2 mulI (E.fld 0 0 (E.var 3)) (E.op2 fdivI (E.var 1) (E.fld 0 1 (E.var 3))) [.val (ofP P), .val (nD s), c2, .val (ofQ q), c4] = .ok (.int ((numL P s).getD j 0)) := fun j q c2 c4 hj => by
      have eq : q = P.getD j 0 := by rw [List.getD_eq_getElem?_getD, hj]; rfl
      refine op2_ok (fld_ok rfl) (op2_ok rfl (fld_ok rfl) (fdivI_ok (den_ne q))) ?_
      have hbd : ((s : Int).fdiv (q.den : Int)).natAbs < 2 ^ b := by
        refine Nat.lt_of_le_of_lt (natAbs_fdiv_le _ (by have := q.den_pos; omega) ?_) sbb
        rw [eq]
        exact Int.ofNat_dvd.mpr (hds j)
      rw [mulok_q (n := b) (m := b) (by rw [eq]; exact (hq j).num) hbd (by omega), numL_get, eq]
    obtain ⟨ρ', e3, o3', e4⟩ := forE_ix P (enc := ofQ) (g := S.tgt 3) (b := B) (fun j ρ => ∃ o3 : Option D, ρ = [.val (ofP P), .val (nD s), .val (nD (gcdI' ((numL P s).take j))), oc o3, .no]) (it := Z.seq (E.fld 1 0 (E.var 0))) (ρ := [.val (ofP P), .val (nD s), .val (nD 0), oc o3, .no]) rfl ⟨o3, rfl⟩ fun j q ρ hj ⟨o3, e⟩ => by
      subst e
      subst hBd
      obtain ⟨i1, i2⟩ := List.getElem?_eq_some_iff.mp hj
      refine ⟨[.val (ofP P), .val (nD s), .val (nD (gcdI' ((numL P s).take j))), .val (ofQ q), .no], by cases o3 <;> rfl, .inl ⟨_, set_ok (op2_ok rfl (item j q _ _ hj) (gcdI_i _ _)), some (ofQ q), ?_⟩⟩
      rw [gcd_take (by rw [lM]; exact i1)]
      rfl
    rw [← lM, List.take_length, hg] at e4
    refine (seq_next (e3.trans (by rw [e4]))).trans ?_
    have tl : T.tst (E.op2 ltI (E.fld 0 0 (E.meth 1 f_Poly_last (E.var 0) E.nil)) (E.c (.int 0))) [.val (ofP P), .val (nD s), .val (nD g), oc o3', .no] = .ok (decide (l.num < 0)) := tst_ok (op2_ok (fld_ok (meth_ok rfl nil_ok hlast)) rfl (ltI_i _ _))
    refine (seq_next (ρ' := [.val (ofP P), .val (nD s), .val (.int c), oc o3', .no]) ?_).trans ?_
    · by_cases z : l.num < 0
      · rw [decide_eq_true z] at tl
        rw [if_pos z] at c3
        rw [ite_t tl, ← c3]
        exact set_ok (op1_ok rfl rfl)
      · rw [decide_eq_false z] at tl
        rw [if_neg z] at c3
        rw [ite_f tl, ← c3]
        rfl
    refine (seq_next (ρ' := [.val (ofP P), .val (nD s), .val (.int c), oc o3', .val (.tup ((cutI c (numL P s)).map D.int))]) (set_ok (asTup_ok ?_))).trans (ret_ok (tupl_ok (cons_ok (app_ok (cons_ok rfl (cons_ok rfl nil_ok)) ?_) (cons_ok rfl nil_ok))))
    · unfold cutI numL
      rw [List.map_map, List.map_map]
      refine comp_map (enc := ofQ) (fun q => D.int ((q.num * ((s : Int).fdiv (q.den : Int))).fdiv c)) rfl (by cases o3' <;> rfl) (by omega) fun q hq' => ⟨[.val (ofP P), .val (nD s), .val (.int c), .val (ofQ q), .no], by cases o3' <;> rfl, rfl, ?_⟩
      obtain ⟨i, hi, ei⟩ := List.getElem_of_mem hq'
      have hj : P[i]? = some q := by rw [List.getElem?_eq_getElem hi, ei]
      have := item i q (.val (.int c)) .no hj
      rw [numL_get, show P.getD i 0 = q by rw [List.getD_eq_getElem?_getD, hj]; rfl] at this
      exact op2_ok this rfl (fdivI_ok c2)
    · unfold objR
      rw [init2_ok _ _ (by omega)]
      rfl
set_option Elab.async false
set_option linter.all false
set_option maxRecDepth 100000
set_option maxHeartbeats 1000000
-- common_divisor
open PySem L2
theorem IsG.self (p : List Rat) : IsG p p [] := ⟨Dv.refl p, Dv.zero p, fun d a _ => a⟩
theorem IsG.mon {p : List Rat} (hp : Tr p) (hn : p ≠ []) : IsG (mon p) p [] := by
  obtain ⟨p', l, rfl, hl, _, _, e⟩ := mon_of hp hn
  exact (IsG.self _).scale (by intro z; apply hl; grind) e
theorem Dv.one (p : List Rat) : Dv [1] p := ⟨p, fun x => by rw [ev_cons, ev_nil]; grind⟩
theorem IsG.const {p q : List Rat} (hp : Tr p) (h : p.length = 1) : IsG [1] p q := by
  obtain ⟨c, rfl⟩ := len_one h
  have hc : c ≠ 0 := hp c rfl
  exact ⟨Dv.one _, Dv.one _, fun d a _ => a.scale (c := c⁻¹) fun x => by rw [ev_cons, ev_nil, ev_cons, ev_nil]; grind⟩
theorem one_tr : Tr [1] := fun a e => by simp at e; subst e; decide
theorem one_mon : Mon [1] := ⟨[], rfl⟩
theorem IB.one {b : Nat} (h : 1 ≤ b) : IB b [1] := by
  refine ⟨1, by decide, Nat.lt_of_lt_of_le (by decide) (Nat.pow_le_pow_right (by decide) h), fun i => ?_⟩
  cases i with
  | zero => exact ⟨1, Nat.lt_of_lt_of_le (by decide) (Nat.pow_le_pow_right (by decide) h), by show (1 : Rat) * _ = _; rw [Rat.one_mul]⟩
  | succ i => exact ⟨0, Nat.two_pow_pos _, by show (0 : Rat) * _ = _; rw [Rat.zero_mul]; rfl⟩
theorem mon_ib {b : Nat} {p : List Rat} (hp : Tr p) (h : IB b p) : IB (b + b) (mon p) := by
  by_cases z : p = []
  · subst z
    exact h.mono (by omega)
  · obtain ⟨p', l, rfl, hl, e, _, _⟩ := mon_of hp z
    rw [e]
    exact h.psc ((h.ql.mem l (by simp)).inv h.pos)
theorem eqS_int' (i j : Int) : eqS (.int i) (.int j) = .ok (.bl (decide (i = j))) := rfl
theorem common_divisor_q {b A N : Nat} {p q h : List Rat} (tp : Tr p) (tq : Tr q) (qp : IB b p) (qq : IB b q) (th : Tr h) (h1 : Dv h p) (h2 : Dv h q) (hb : b ≤ 12000) (lp : p.length ≤ N) (lq : q.length ≤ N) (hN : N ≤ 400)
    (hA : (b + 2) * 3 ^ (max p.length (q.length + 1)) ≤ A * 3 ^ h.length) (hB : (N + 6) * (A + 1) ≤ 90000000) :
    ∃ g, f_common_divisor [ofP p, ofP q] = .ok (ofP g) ∧ Tr g ∧ IsG g p q ∧ (p ≠ [] ∨ q ≠ [] → Mon g) ∧ IB (A + 2 * b) g ∧ (p = [] → q = [] → g = []) := by
  have b1 := qp.pos
  have zp : T.tst (E.meth 1 f_Poly_is_zero (E.var 0) E.nil) [.val (ofP p), .val (ofP q), .no, .no, .no, .no] = .ok (decide (p = [])) := tst_ok (meth_ok rfl nil_ok (Poly_is_zero_q p))
  have zq : T.tst (E.meth 1 f_Poly_is_zero (E.var 1) E.nil) [.val (ofP p), .val (ofP q), .no, .no, .no, .no] = .ok (decide (q = [])) := tst_ok (meth_ok rfl nil_ok (Poly_is_zero_q q))
  by_cases hq : q = []
  · rw [decide_eq_true hq] at zq
    refine ⟨mon p, ?_, ?_, ?_, ?_, (mon_ib tp qp).mono (by omega), fun z _ => by rw [z]; rfl⟩
    · refine runD_ret [.val (ofP p), .val (ofP q), .no, .no, .no, .no] rfl rfl ?_
      unfold b_common_divisor
      refine seq_ret ?_
      have t1 : T.or (T.tst (E.meth 1 f_Poly_is_zero (E.var 0) E.nil)) (T.tst (E.meth 1 f_Poly_is_zero (E.var 1) E.nil)) [.val (ofP p), .val (ofP q), .no, .no, .no, .no] = .ok true := by
        by_cases z : p = []
        · rw [decide_eq_true z] at zp; exact or_t zp
        · rw [decide_eq_false z] at zp; exact or_f zp zq
      rw [ite_t t1]
      refine ret_ok ?_
      rw [eite_t zq]
      exact meth_ok rfl nil_ok (Poly_monic_q b1 tp qp.ql (by omega) (by omega))
    · by_cases z : p = []
      · subst z; exact tp
      · obtain ⟨_, _, _, _, _, m, _⟩ := mon_of tp z; exact m.tr
    · rw [hq]
      by_cases z : p = []
      · subst z; exact IsG.self _
      · exact IsG.mon tp z
    · rintro (z | z)
      · obtain ⟨_, _, _, _, _, m, _⟩ := mon_of tp z; exact m
      · exact absurd hq z
  rw [decide_eq_false hq] at zq
  by_cases hp : p = []
  · rw [decide_eq_true hp] at zp
    obtain ⟨_, _, _, _, _, m, _⟩ := mon_of tq hq
    refine ⟨mon q, ?_, m.tr, by rw [hp]; exact (IsG.mon tq hq).symm, fun _ => m, (mon_ib tq qq).mono (by omega), fun _ z => absurd z hq⟩
    refine runD_ret [.val (ofP p), .val (ofP q), .no, .no, .no, .no] rfl rfl ?_
    unfold b_common_divisor
    refine seq_ret ?_
    rw [ite_t (or_t zp)]
    refine ret_ok ?_
    rw [eite_f zq]
    exact meth_ok rfl nil_ok (Poly_monic_q b1 tq qq.ql (by omega) (by omega))
  rw [decide_eq_false hp] at zp
  have lp0 : p.length ≠ 0 := fun z => hp (List.length_eq_zero_iff.mp z)
  have lq0 : q.length ≠ 0 := fun z => hq (List.length_eq_zero_iff.mp z)
  have tz := ite_f (f := S.ret (E.ite (T.tst (E.meth 1 f_Poly_is_zero (E.var 1) E.nil)) (E.meth 1 f_Poly_monic (E.var 0) E.nil) (E.meth 1 f_Poly_monic (E.var 1) E.nil))) (g := S.skip) (or_f zp zq)
  have dp : T.tst (E.op2 eqS (E.meth 1 f_Poly_degree (E.var 0) E.nil) (E.c (.int 0))) [.val (ofP p), .val (ofP q), .no, .no, .no, .no] = .ok (decide (p.length = 1)) := by
    refine tst_ok (op2_ok (meth_ok rfl nil_ok Poly_degree_q) rfl ?_)
    rw [eqS_int']
    congr 2
    exact decide_eq_decide.mpr (by omega)
  have dq : T.tst (E.op2 eqS (E.meth 1 f_Poly_degree (E.var 1) E.nil) (E.c (.int 0))) [.val (ofP p), .val (ofP q), .no, .no, .no, .no] = .ok (decide (q.length = 1)) := by
    refine tst_ok (op2_ok (meth_ok rfl nil_ok Poly_degree_q) rfl ?_)
    rw [eqS_int']
    congr 2
    exact decide_eq_decide.mpr (by omega)
  by_cases c1 : p.length = 1 ∨ q.length = 1
  · refine ⟨[1], ?_, one_tr, ?_, fun _ => one_mon, IB.one (by omega), fun _ z => absurd z hq⟩
    · refine runD_ret [.val (ofP p), .val (ofP q), .no, .no, .no, .no] rfl rfl ?_
      unfold b_common_divisor
      refine (seq_next (ρ' := [.val (ofP p), .val (ofP q), .no, .no, .no, .no]) (by rw [tz]; rfl)).trans (seq_ret ?_)
      have t1 : T.or (T.tst (E.op2 eqS (E.meth 1 f_Poly_degree (E.var 0) E.nil) (E.c (.int 0)))) (T.tst (E.op2 eqS (E.meth 1 f_Poly_degree (E.var 1) E.nil) (E.c (.int 0)))) [.val (ofP p), .val (ofP q), .no, .no, .no, .no] = .ok true := by
        by_cases z : p.length = 1
        · rw [decide_eq_true z] at dp; exact or_t dp
        · rw [decide_eq_false z] at dp
          rw [decide_eq_true (c1.resolve_left z)] at dq
          exact or_f dp dq
      rw [ite_t t1]
      refine ret_ok (app_ok (cons_ok (tupl_ok (ds := [Sum.inl 1].map cf) rfl) nil_ok) ((Poly_make_mix (.inr rfl) (by decide)).trans ?_))
      rw [show trim ([Sum.inl (1 : Int)].map cv) = [1] from trim_eq one_tr fun _ => rfl]
    · rcases c1 with z | z
      · exact IsG.const tp z
      · exact (IsG.const tq z).symm
  obtain ⟨r1, N1, P1, e1⟩ := Poly_primitive_q tp hp qp hb (by omega)
  obtain ⟨r2, N2, P2, e2⟩ := Poly_primitive_q tq hq qq hb (by omega)
  have t1 : TrI N1 := fun l hl => by have := P1.pos l hl; omega
  have t2 : TrI N2 := fun l hl => by have := P2.pos l hl; omega
  -- the loop
  suffices key : ∃ (f : List Int) (a : Nat), S.whil (fuelL 3) (T.tst (E.op2 gtI (E.len (Z.seq (E.var 3))) (E.c (.int 0)))) (S.par 2 3 (E.cons (E.var 3) (E.cons (E.lst (E.appF f_integer_rest (E.cons (E.var 2) (E.cons (E.var 3) E.nil)))) E.nil))) [.val (ofP p), .val (ofP q), .val (iL N1), .val (iL N2), .no, .no] = .next [.val (ofP p), .val (ofP q), .val (iL f), .val (iL []), .no, .no] ∧ TrI f ∧ f ≠ [] ∧ f.length ≤ N ∧ NB a f ∧ 1 ≤ a ∧ a ≤ A ∧ IsG (iv f) p q by
    obtain ⟨f, a, e3, tf, fn, lf, nf, a1, aA, G⟩ := key
    obtain ⟨f', l, rfl, hl⟩ : ∃ f' l, f = f' ++ [l] ∧ l ≠ 0 := by
      rcases List.eq_nil_or_concat f with e | ⟨p', l, e⟩
      · exact absurd e fn
      · rw [List.concat_eq_append] at e
        exact ⟨p', l, e, tf l (by rw [e]; simp)⟩
    have ll : (f' ++ [l]).length = f'.length + 1 := List.length_append
    have gl : (f' ++ [l]).getD f'.length 0 = l := by
      rw [List.getD_eq_getElem?_getD, List.getElem?_append_right (Nat.le_refl _), Nat.sub_self]
      rfl
    have lR := cast_ne hl
    have em : psc (l : Rat)⁻¹ (iv (f' ++ [l])) = psc (l : Rat)⁻¹ (iv f') ++ [1] := by
      unfold psc iv
      rw [List.map_append, List.map_append]
      congr 1
      show [(l : Rat)⁻¹ * (l : Rat)] = [1]
      rw [Rat.inv_mul_cancel _ lR]
    have mG : Mon (psc (l : Rat)⁻¹ (iv (f' ++ [l]))) := ⟨_, em⟩
    refine ⟨psc (l : Rat)⁻¹ (iv (f' ++ [l])), ?_, mG.tr, G.scale (c := (l : Rat)⁻¹) (by intro z; apply lR; grind) fun x => ev_psc _ _ x, fun _ => mG, ?_, fun _ z => absurd z hq⟩
    · refine runD_ret [.val (ofP p), .val (ofP q), .no, .no, .no, .no] rfl rfl ?_
      unfold b_common_divisor
      refine (seq_next (ρ' := [.val (ofP p), .val (ofP q), .no, .no, .no, .no]) (by rw [tz]; rfl)).trans ?_
      rw [decide_eq_false (fun z => c1 (.inl z))] at dp
      rw [decide_eq_false (fun z => c1 (.inr z))] at dq
      refine (seq_next (ρ' := [.val (ofP p), .val (ofP q), .no, .no, .no, .no]) (by rw [ite_f (or_f dp dq)]; rfl)).trans ?_
      have hpar : E.cons (E.lst (Z.seq (E.ix (Z.seq (E.meth 1 f_Poly_primitive (E.var 0) E.nil)) (E.c (.int 1))))) (E.cons (E.lst (Z.seq (E.ix (Z.seq (E.meth 1 f_Poly_primitive (E.var 1) E.nil)) (E.c (.int 1))))) E.nil) [.val (ofP p), .val (ofP q), .no, .no, .no, .no] = .ok [iL N1, iL N2] :=
        cons_ok (lst_ok (seq_of (.inl (ix_ok (i := 1) (seq_of (.inl (meth_ok rfl nil_ok e1))) rfl (atI_1 _ _ _))))) (cons_ok (lst_ok (seq_of (.inl (ix_ok (i := 1) (seq_of (.inl (meth_ok rfl nil_ok e2))) rfl (atI_1 _ _ _))))) nil_ok)
      refine (seq_next (ρ' := [.val (ofP p), .val (ofP q), .val (iL N1), .val (iL N2), .no, .no]) (by unfold S.par S.lift; rw [hpar]; rfl)).trans ?_
      refine (seq_next e3).trans ?_
      have hi := itemI (p := f' ++ [l]) (j := f'.length) (by omega)
      rw [gl] at hi
      refine (seq_next (ρ' := [.val (ofP p), .val (ofP q), .val (iL (f' ++ [l])), .val (iL []), .val (.int l), .no]) (set_ok (ix_ok (seq_of (.inr rfl)) (op2_ok (len_ok (n := f'.length + 1) rfl (by rw [List.length_map, ll])) rfl (subI_1 _)) hi))).trans ?_
      have cm : E.comp [5] (Z.seq (E.var 2)) (S.tgt 5) T.yes (E.app (objR 0 f_Ratio_init_2) (E.cons (E.var 5) (E.cons (E.var 4) E.nil))) [.val (ofP p), .val (ofP q), .val (iL (f' ++ [l])), .val (iL []), .val (.int l), .no] = .ok ((psc (l : Rat)⁻¹ (iv (f' ++ [l]))).map ofQ) := by
        unfold psc iv
        rw [List.map_map, List.map_map]
        refine comp_map (enc := D.int) (fun n => ofQ ((l : Rat)⁻¹ * (n : Rat))) rfl rfl (by omega) fun n hn => ⟨[.val (ofP p), .val (ofP q), .val (iL (f' ++ [l])), .val (iL []), .val (.int l), .val (.int n)], rfl, rfl, app_ok (cons_ok rfl (cons_ok rfl nil_ok)) ?_⟩
        unfold objR
        rw [init2_ok _ _ hl, Rat.divInt_eq_div, show (n : Rat) / (l : Rat) = (l : Rat)⁻¹ * (n : Rat) by rw [Rat.div_def, Rat.mul_comm]]
        rfl
      have hmk := Poly_make_q (r := psc (l : Rat)⁻¹ (iv (f' ++ [l]))) (.inl rfl) (by unfold psc; rw [List.length_map, iv_len]; omega)
      rw [trim_eq mG.tr fun _ => rfl] at hmk
      exact ret_ok (app_ok (cons_ok (lst_ok cm) nil_ok) hmk)
    · refine ⟨l, hl, ?_, fun i => ⟨(f' ++ [l]).getD i 0, pow_mono (nf i) (by omega), ?_⟩⟩
      · have := nf f'.length
        rw [gl] at this
        exact pow_mono this (by omega)
      · rw [psc_getD, iv_getD]
        grind
  have hlen : ∀ (f s : List Int), E.len (Z.seq (E.var 3)) [.val (ofP p), .val (ofP q), .val (iL f), .val (iL s), .no, .no] = .ok (nD s.length) := fun f s => len_ok (seq_of (.inr rfl)) (List.length_map _)
  have hcond : ∀ (f s : List Int), T.tst (E.op2 gtI (E.len (Z.seq (E.var 3))) (E.c (.int 0))) [.val (ofP p), .val (ofP q), .val (iL f), .val (iL s), .no, .no] = .ok (decide (0 < s.length)) := fun f s => by
    refine tst_ok (op2_ok (hlen f s) rfl ?_)
    show Res.ok (D.bl (decide ((s.length : Int) > 0))) = _
    congr 2
    exact decide_eq_decide.mpr (by omega)
  obtain ⟨ρ', e3, ⟨f, s, a, q1, q2, q3, q4, q5, q6, q7, q8, q9, q10, q11, e4⟩, e5⟩ := while_inv (c := T.tst (E.op2 gtI (E.len (Z.seq (E.var 3))) (E.c (.int 0)))) (b := S.par 2 3 (E.cons (E.var 3) (E.cons (E.lst (E.appF f_integer_rest (E.cons (E.var 2) (E.cons (E.var 3) E.nil)))) E.nil)))
    (fun ρ => ∃ (f s : List Int) (a : Nat), TrI f ∧ TrI s ∧ f ≠ [] ∧ NB a f ∧ NB a s ∧ 1 ≤ a ∧ f.length ≤ N ∧ s.length ≤ N ∧ (∀ d, Dv d (iv f) → Dv d (iv s) → Dv d p ∧ Dv d q) ∧ (∀ d, Dv d p → Dv d q → Dv d (iv f) ∧ Dv d (iv s)) ∧ Sz A h.length a 0 (max f.length (s.length + 1)) ∧ ρ = [.val (ofP p), .val (ofP q), .val (iL f), .val (iL s), .no, .no])
    (fun ρ => fuelL 3 ρ - 1) (fun ρ ⟨f, s, a, q1, q2, q3, q4, q5, q6, q7, q8, q9, q10, q11, e⟩ => by
      subst e
      rw [hcond]
      by_cases hs : 0 < s.length
      · have sn : s ≠ [] := fun z => by rw [z] at hs; simp at hs
        have ivn : iv s ≠ [] := fun z => sn (by have := congrArg List.length z; rw [iv_len] at this; exact List.length_eq_zero_iff.mp this)
        have hL : h.length ≤ s.length := by
          have := ((q10 h h1 h2).2.len th q2.tr ivn).2.1
          rw [iv_len] at this
          exact this
        have fin := q11.fin (by omega)
        have m1 : (N + 6) * (a + 1) ≤ (N + 6) * (A + 1) := Nat.mul_le_mul_left _ (by omega)
        have m2 : (f.length + 2) * (a + 1) ≤ (N + 2) * (a + 1) := Nat.mul_le_mul_right _ (by omega)
        have m3 : (N + 6) * (a + 1) = (N + 2) * (a + 1) + 4 * (a + 1) := by rw [show N + 6 = N + 2 + 4 by omega, Nat.add_mul]
        obtain ⟨R, eR, tR, lR, nR, k, c, U, k0, c0, he⟩ := integer_rest_q q4 q5 q2 sn (by omega) (by omega) (by omega)
        have st := q11.step (e' := max s.length (R.length + 1)) (K := f.length + 1 - s.length) (by omega) (by omega)
        refine .inr ⟨by rw [decide_eq_true hs], [.val (ofP p), .val (ofP q), .val (iL s), .val (iL R), .no, .no], ?_, ⟨s, R, a + (f.length + 1 - s.length) * (a + 1), q2, tR, sn, q5.mono (by omega), nR, by omega, q8, by omega, fun d a1 a2 => q9 d ?_ a1, fun d a1 a2 => ⟨(q10 d a1 a2).2, ?_⟩, ⟨st.a, by rw [Nat.zero_mul]; exact Nat.zero_le _⟩, rfl⟩, ?_⟩
        · have hpar : E.cons (E.var 3) (E.cons (E.lst (E.appF f_integer_rest (E.cons (E.var 2) (E.cons (E.var 3) E.nil)))) E.nil) [.val (ofP p), .val (ofP q), .val (iL f), .val (iL s), .no, .no] = .ok [iL s, iL R] :=
            cons_ok rfl (cons_ok (lst_ok (appF_ok (cons_ok rfl (cons_ok rfl nil_ok)) eR)) nil_ok)
          unfold S.par S.lift
          rw [hpar]
          rfl
        · exact (a1.lin a2 (u := psc k⁻¹ U) (w := [c * k⁻¹]) fun x => by
            rw [ev_psc, ev_cons, ev_nil]
            have := he x
            grind)
        · obtain ⟨a3, a4⟩ := q10 d a1 a2
          exact (a3.lin a4 (u := [k * c⁻¹]) (w := psc (-c⁻¹) U) fun x => by
            rw [ev_psc, ev_cons, ev_nil]
            have := he x
            grind)
        · show (R.map D.int).length + 1 - 1 < (s.map D.int).length + 1 - 1
          rw [List.length_map, List.length_map]
          omega
      · exact .inl (by rw [decide_eq_false hs])) (N2.length + 1) [.val (ofP p), .val (ofP q), .val (iL N1), .val (iL N2), .no, .no]
    ⟨N1, N2, b, t1, t2, fun z => lp0 (by rw [← P1.len, z]; rfl), P1.nb, P2.nb, b1, by rw [P1.len]; exact lp, by rw [P2.len]; exact lq, fun d a1 a2 => ⟨a1.scale P1.ev, a2.scale P2.ev⟩, fun d a1 a2 => ⟨a1.scale (c := r1⁻¹) fun x => by rw [P1.ev]; have := P1.r0; grind, a2.scale (c := r2⁻¹) fun x => by rw [P2.ev]; have := P2.r0; grind⟩, ⟨by rw [P1.len, P2.len]; exact hA, by rw [Nat.zero_mul]; exact Nat.zero_le _⟩, rfl⟩ (by show (N2.map D.int).length + 1 - 1 < _; rw [List.length_map]; omega)
  subst e4
  rw [hcond] at e5
  have hs0 : s = [] := List.length_eq_zero_iff.mp (by have := of_decide_eq_false (Res.ok.inj e5); omega)
  subst hs0
  have hL : h.length ≤ f.length := by
    have ivn : iv f ≠ [] := fun z => q3 (by have := congrArg List.length z; rw [iv_len] at this; exact List.length_eq_zero_iff.mp this)
    have := ((q10 h h1 h2).1.len th q1.tr ivn).2.1
    rw [iv_len] at this
    exact this
  have fin := q11.fin (by omega)
  refine ⟨f, a, ?_, q1, q3, q7, q4, q6, by omega, ?_⟩
  · unfold S.whil
    rw [show fuelL 3 [.val (ofP p), .val (ofP q), .val (iL N1), .val (iL N2), .no, .no] = N2.length + 1 by show (N2.map D.int).length + 1 = _; rw [List.length_map]]
    exact e3
  · obtain ⟨g1, g2⟩ := q9 (iv f) (Dv.refl _) (Dv.zero _)
    exact ⟨g1, g2, fun d a1 a2 => (q10 d a1 a2).1⟩
set_option Elab.async false
set_option linter.all false
set_option maxRecDepth 100000
set_option maxHeartbeats 1000000
-- cofactors
open PySem L2
theorem par_ok {i m : Nat} {f : Env → Res (List D)} {ρ : Env} {x y : D} (h : f ρ = .ok [x, y]) (hi : i < ρ.length ∧ m < ρ.length) : S.par i m f ρ = .next (List.set (List.set ρ i (.val x)) m (.val y)) := by
  unfold S.par S.lift
  rw [h]
  exact if_pos hi
theorem tr_nil : Tr [] := fun a h => by simp at h
theorem IB.one_of {b : Nat} {q : Rat} (h : Qb b q) (hb : 1 ≤ b) : IB (b + 1) [q] := ((IB.nil (b := 1) (by omega)).cons h).mono (by omega)
theorem first_cofactor_q {b A N : Nat} {p q h : List Rat} (tp : Tr p) (tq : Tr q) (hq : q ≠ []) (qp : IB b p) (qq : IB b q) (th : Tr h) (h1 : Dv h p) (h2 : Dv h q) (lp : p.length ≤ N) (lq : q.length ≤ N) (hN : N ≤ 100)
    (hA : (b + 2) * 3 ^ (max p.length (q.length + 1)) ≤ A * 3 ^ h.length) (hB : (N + 1) * ((N + 10) * (A + 1)) ≤ 50000000) (hB2 : (N + 10) * (A + 1) ≤ 10000000) :
    ∃ g u, f_first_cofactor [ofP p, ofP q] = .ok (.tup [ofP g, ofP u]) ∧ Mon g ∧ IsG g p q ∧ Tr u ∧ (∃ w, ∀ x, evl g x = evl u x * evl p x + evl w x * evl q x) ∧ IB (2 * A) g ∧ IB (5 * A) u ∧ u.length ≤ 2 * N + 3 := by
  have b1 := qp.pos
  have hcond : ∀ (f s u v : D) (c6 c7 : Cell) (r : List Rat), s = ofP r → T.not (T.tst (E.meth 1 f_Poly_is_zero (E.var 3) E.nil)) [.val (ofP p), .val (ofP q), .val f, .val s, .val u, .val v, c6, c7, .no] = .ok (!decide (r = [])) := fun f s u v c6 c7 r e => by
    subst e
    exact not_ok (tst_ok (meth_ok rfl nil_ok (Poly_is_zero_q r)))
  have hg0 : 1 * 3 ^ (max p.length (q.length + 1)) ≤ 4 * (A * 3 ^ h.length) := by
    have h3 : 1 * 3 ^ (max p.length (q.length + 1)) ≤ (b + 2) * 3 ^ (max p.length (q.length + 1)) := Nat.mul_le_mul_right _ (by omega)
    omega
  obtain ⟨ρ', e3, ⟨f, s, u, v, a, g, W, c6, c7, q1, q2, q3, q4, q5, q6, q7, q8, q9, q10, q11, q12, q13, q14, q15, q16, e4⟩, e5⟩ := while_inv (c := T.not (T.tst (E.meth 1 f_Poly_is_zero (E.var 3) E.nil))) (b := S.seq (S.asg (S.gtup 2 (S.gcons (S.tgt 6) (S.gcons (S.tgt 7) S.gnil))) (E.meth 1 f_Poly_divided (E.var 2) (E.cons (E.var 3) E.nil))) (S.seq (S.par 2 3 (E.cons (E.var 3) (E.cons (E.var 7) E.nil))) (S.par 4 5 (E.cons (E.var 5) (E.cons (E.own2 1 f_Poly_sub (E.var 4) (E.own2 1 f_Poly_mul (E.var 6) (E.var 5))) E.nil)))))
    (fun ρ => ∃ (f s u v : List Rat) (a g W : Nat) (c6 c7 : Cell), Tr f ∧ Tr s ∧ Tr u ∧ Tr v ∧ (f ≠ [] ∨ s ≠ []) ∧ IB a f ∧ IB a s ∧ IB g u ∧ IB g v ∧ f.length ≤ N ∧ s.length ≤ N ∧ Eu p q f s u v ∧ Sz A h.length a g (max f.length (s.length + 1)) ∧ u.length ≤ W ∧ v.length ≤ W ∧ W + 2 * (max f.length (s.length + 1)) ≤ 2 * N + 3 ∧ ρ = [.val (ofP p), .val (ofP q), .val (ofP f), .val (ofP s), .val (ofP u), .val (ofP v), c6, c7, .no])
    (fun ρ => fuelO 3 ρ - 2) (fun ρ ⟨f, s, u, v, a, g, W, c6, c7, q1, q2, q3, q4, q5, q6, q7, q8, q9, q10, q11, q12, q13, q14, q15, q16, e⟩ => by
      subst e
      rw [hcond _ _ _ _ _ _ s rfl]
      by_cases hs : s = []
      · exact .inl (by rw [decide_eq_true hs]; rfl)
      · have hL := q12.len h1 h2 th q2 hs
        have fin := q13.fin (by omega)
        obtain ⟨t, r, d1, d2, d3, d4, d5, d6, d7⟩ := div_ib q1 q2 hs q6 q7
        have s0 : s.length ≠ 0 := fun z => hs (List.length_eq_zero_iff.mp z)
        have m1 : (N + 1) * ((N + 10) * (a + 1)) ≤ (N + 1) * ((N + 10) * (A + 1)) := Nat.mul_le_mul_left _ (Nat.mul_le_mul_left _ (by omega))
        have m2 : t.length * (a + 1) ≤ (N + 1) * (A + 1) := Nat.mul_le_mul (by omega) (by omega)
        have m3 : (N + 10) * (A + 1) = (N + 1) * (A + 1) + 9 * (A + 1) := by rw [show N + 10 = (N + 1) + 9 by omega, Nat.add_mul]
        have hdiv := Poly_divided_i q1 d1 q2 hs d2 d3 d4 q6 q7 (by omega) (by omega) (by omega)
        have n1 : t.length * ((a + t.length * (a + 1) + a) + g + 1) ≤ (N + 1) * ((N + 10) * (A + 1)) := Nat.mul_le_mul (by omega) (by omega)
        have emul := Poly_mul_q d7.ql q9.ql (by omega) (by omega) (by omega)
        have lpm := pm_len t v
        have esub := Poly_sub_q (IB.pm d7 q9).pos q8.ql (IB.pm d7 q9).ql (by omega) (by omega) (by omega)
        have st := q13.step (e' := max s.length (r.length + 1)) (K := t.length) (by omega) (by omega)
        have lsb := psub_len u (pm t v)
        refine .inr ⟨by rw [decide_eq_false hs]; rfl, [.val (ofP p), .val (ofP q), .val (ofP s), .val (ofP r), .val (ofP v), .val (ofP (psub u (pm t v))), .val (ofP t), .val (ofP r), .no], ?_, ⟨s, r, v, psub u (pm t v), _, _, W + t.length, .val (ofP t), .val (ofP r), q2, d2, q4, psub_tr _ _, .inl hs, q7.mono (by omega), d6, q9.mono (by omega), (q8.psub (IB.pm d7 q9)).mono ?_, q11, by omega, q12.step d4 fun x => by rw [ev_psub, ev_pm], st, by omega, by omega, by omega, rfl⟩, ?_⟩
        · refine (seq_next (ρ' := [.val (ofP p), .val (ofP q), .val (ofP f), .val (ofP s), .val (ofP u), .val (ofP v), .val (ofP t), .val (ofP r), .no]) ?_).trans ((seq_next (ρ' := [.val (ofP p), .val (ofP q), .val (ofP s), .val (ofP r), .val (ofP u), .val (ofP v), .val (ofP t), .val (ofP r), .no]) rfl).trans ?_)
          · have e : E.meth 1 f_Poly_divided (E.var 2) (E.cons (E.var 3) E.nil) [.val (ofP p), .val (ofP q), .val (ofP f), .val (ofP s), .val (ofP u), .val (ofP v), c6, c7, .no] = .ok (.tup [ofP t, ofP r]) := meth_ok rfl rfl hdiv
            unfold S.asg S.lift
            rw [e]
            rfl
          · exact par_ok (cons_ok rfl (cons_ok (own2_ok rfl (own2_ok rfl rfl emul) esub) nil_ok)) (by simp)
        · rw [Nat.add_mul]
          omega
        · show (r.map ofQ).length + 2 - 2 < (s.map ofQ).length + 2 - 2
          rw [List.length_map, List.length_map]
          omega) (q.length + 2) [.val (ofP p), .val (ofP q), .val (ofP p), .val (ofP q), .val (ofP [1]), .val (ofP []), .no, .no, .no]
    ⟨p, q, [1], [], b, 1, 1, .no, .no, tp, tq, one_tr, tr_nil, .inr hq, qp, qq, IB.one (by omega), IB.nil (by omega), lp, lq, Eu.start p q, ⟨hA, hg0⟩, by simp, by simp, by omega, rfl⟩ (by show (q.map ofQ).length + 2 - 2 < _; rw [List.length_map]; omega)
  · subst e4
    rw [hcond _ _ _ _ _ _ s rfl] at e5
    have hs0 : s = [] := by
      have e6 := Res.ok.inj e5
      by_cases z : s = []
      · exact z
      · rw [decide_eq_false z] at e6
        cases e6
    subst hs0
    have fn : f ≠ [] := q5.resolve_right fun z => z rfl
    have hL := q12.lenf h1 h2 th q1 fn
    have fin := q13.fin (by omega)
    obtain ⟨f', l, rfl, hl, em, mG, ee⟩ := mon_of q1 fn
    have li : l⁻¹ ≠ 0 := fun z => hl (by grind)
    have ql : Qb a l := q6.ql.mem l (by simp)
    have m3 : (N + 10) * (A + 1) = N * (A + 1) + 10 * (A + 1) := Nat.add_mul _ _ _
    have es1 := Poly_scaled_q q6.ql (ql.inv q6.pos) (by omega) (by omega)
    rw [trim_eq (psc_tr li q1) fun _ => rfl, ← em] at es1
    have es2 := Poly_scaled_q q8.ql (ql.inv q6.pos) (by omega) (by omega)
    rw [trim_eq (psc_tr li q3) fun _ => rfl] at es2
    obtain ⟨w, hw⟩ := q12.a
    refine ⟨mon (f' ++ [l]), psc l⁻¹ u, ?_, mG, q12.final.scale li ee, psc_tr li q3, ⟨psc l⁻¹ w, fun x => by rw [ee, hw, ev_psc, ev_psc]; grind⟩, by rw [em]; exact (q6.psc (ql.inv q6.pos)).mono (by omega), (q8.psc (ql.inv q6.pos)).mono (by omega), by unfold psc; rw [List.length_map]; omega⟩
    refine runD_ret [.val (ofP p), .val (ofP q), .no, .no, .no, .no, .no, .no, .no] rfl rfl ?_
    unfold b_first_cofactor
    refine (seq_next (ρ' := [.val (ofP p), .val (ofP q), .val (ofP p), .val (ofP q), .no, .no, .no, .no, .no]) rfl).trans ?_
    have i1 : E.app (objR 1 f_Poly_init_1) (E.cons (E.tupl (E.cons (E.c (.int 1)) E.nil)) E.nil) [.val (ofP p), .val (ofP q), .val (ofP p), .val (ofP q), .no, .no, .no, .no, .no] = .ok (ofP [1]) := app_ok (cons_ok (tupl_ok (ds := [Sum.inl 1].map cf) rfl) nil_ok) ((Poly_make_mix (.inr rfl) (by decide)).trans (by rw [show trim ([Sum.inl (1 : Int)].map cv) = [1] from trim_eq one_tr fun _ => rfl]))
    have i0 : E.app (objR 1 f_Poly_init_1) (E.cons (E.tupl E.nil) E.nil) [.val (ofP p), .val (ofP q), .val (ofP p), .val (ofP q), .no, .no, .no, .no, .no] = .ok (ofP []) := app_ok (cons_ok (tupl_ok (ds := [].map cf) nil_ok) nil_ok) (Poly_make_mix (xs := []) (.inr rfl) (by decide))
    refine (seq_next (ρ' := [.val (ofP p), .val (ofP q), .val (ofP p), .val (ofP q), .val (ofP [1]), .val (ofP []), .no, .no, .no]) (par_ok (cons_ok i1 (cons_ok i0 nil_ok)) (by simp))).trans ?_
    refine (seq_next (ρ' := [.val (ofP p), .val (ofP q), .val (ofP (f' ++ [l])), .val (ofP []), .val (ofP u), .val (ofP v), c6, c7, .no]) ?_).trans ?_
    · unfold S.whil
      rw [show fuelO 3 [.val (ofP p), .val (ofP q), .val (ofP p), .val (ofP q), .val (ofP [1]), .val (ofP []), .no, .no, .no] = q.length + 2 by show (q.map ofQ).length + 2 = _; rw [List.length_map]]
      exact e3
    refine (seq_next (ρ' := [.val (ofP p), .val (ofP q), .val (ofP (f' ++ [l])), .val (ofP []), .val (ofP u), .val (ofP v), c6, c7, .val (ofQ l⁻¹)]) (set_ok (meth_ok (meth_ok rfl nil_ok (Poly_last_q _ _)) nil_ok (Ratio_inverse_q hl)))).trans (ret_ok (tupl_ok (cons_ok (meth_ok rfl (cons_ok rfl nil_ok) es1) (cons_ok (meth_ok rfl (cons_ok rfl nil_ok) es2) nil_ok))))
-- exact divisions
theorem exact_div {a b : Nat} {p d : List Rat} (tp : Tr p) (td : Tr d) (dn : d ≠ []) (qp : IB a p) (qd : IB b d) (h : Dv d p) (lp : p.length ≤ 400) (ld : d.length ≤ 400) (hB : 3 * (a + (p.length + 1 - d.length) * (b + 1)) + 6 * b ≤ 90000000) :
    ∃ s, Tr s ∧ s.length = p.length + 1 - d.length ∧ IB (a + (p.length + 1 - d.length) * (b + 1) + b) s ∧ (∀ x, evl p x = evl s x * evl d x) ∧ f_Poly_divided [ofP p, ofP d] = .ok (.tup [ofP s, ofP []]) := by
  obtain ⟨s, r, t1, t2, t3, t4, t5, t6, t7⟩ := div_ib tp td dn qp qd
  obtain ⟨s', e'⟩ := h
  have dl : 0 < d.length := Nat.pos_of_ne_zero fun z => dn (List.length_eq_zero_iff.mp z)
  have hu := div_unique (s := s) (s' := trim s') (r := r) (r' := []) t1 (trim_tr _) td t2 tr_nil t3 dl fun x => by rw [← t4, e', ev_trim, ev_nil]; grind
  have hr := hu.2
  subst hr
  rw [t5] at t7
  refine ⟨s, t1, t5, t7, fun x => by rw [t4, ev_nil]; grind, Poly_divided_i tp t1 td dn t2 t3 t4 qp qd lp ld (by rw [t5]; exact hB)⟩
structure Cof (p q g u v : List Rat) : Prop where
  tg : Tr g
  tu : Tr u
  tv : Tr v
  both : p = [] → q = [] → g = [] ∧ u = [] ∧ v = []
  mon : p ≠ [] ∨ q ≠ [] → Mon g
  gcd : IsG g p q
  eq : ∀ x, evl g x = evl u x * evl p x + evl v x * evl q x
  q0 : q = [] → p ≠ [] → v = [] ∧ u.length = 1
  q1 : q ≠ [] → u.length + g.length < q.length + 1
set_option Elab.async false
set_option linter.all false
set_option maxRecDepth 100000
set_option maxHeartbeats 1000000
-- combine_to
open PySem L2
theorem divides_iff {a b : Nat} {d c : List Rat} (td : Tr d) (tc : Tr c) (qd : IB b d) (qc : IB a c) (ld : d.length ≤ 400) (lc : c.length ≤ 400) (hB : 3 * (a + (c.length + 1) * (b + 1)) + 6 * b ≤ 90000000) : ∃ v : Bool, f_Poly_divides [ofP d, ofP c] = .ok (.bl v) ∧ (v = true ↔ Dv d c) := by
  by_cases z : d = []
  · subst z
    refine ⟨decide (c = []), Poly_divides_0, ?_⟩
    rw [decide_eq_true_iff]
    refine ⟨fun e => by rw [e]; exact Dv.zero _, fun ⟨s, e⟩ => ev_inj tc tr_nil fun x => by rw [e, ev_nil]; grind⟩
  · obtain ⟨s, r, t1, t2, t3, t4, t5, t6, t7⟩ := div_ib tc td z qc qd
    have k1 : s.length * (b + 1) ≤ (c.length + 1) * (b + 1) := Nat.mul_le_mul_right _ (by omega)
    refine ⟨decide (r = []), Poly_divides_of z (Poly_divided_i tc t1 td z t2 t3 t4 qc qd lc ld (by omega)), ?_⟩
    rw [decide_eq_true_iff]
    have dl : 0 < d.length := Nat.pos_of_ne_zero fun e => z (List.length_eq_zero_iff.mp e)
    refine ⟨fun e => ⟨s, fun x => by rw [t4, e, ev_nil]; grind⟩, fun ⟨s', e'⟩ => ?_⟩
    exact (div_unique (s := s) (s' := trim s') (r := r) (r' := []) t1 (trim_tr _) td t2 tr_nil t3 dl fun x => by rw [← t4, e', ev_trim, ev_nil]; grind).2
structure Cmb (p q c s t : List Rat) : Prop where
  ts : Tr s
  tt : Tr t
  eq : ∀ x, evl s x * evl p x + evl t x * evl q x = evl c x
  q0 : q = [] → t = []
  pq0 : q = [] → p = [] → s = []
  len : q ≠ [] → ∀ g, IsG g p q → Mon g → s.length + g.length < q.length + 1
  bs : IB 300000 s
  bt : IB 400000 t
  ls : s.length ≤ 12
  lt : t.length ≤ 20
theorem combine_q {p q h c : List Rat} (tp : Tr p) (tq : Tr q) (tc : Tr c) (bp : IB 29 p) (bq : IB 29 q) (bc : IB 120 c) (th : Tr h) (h1 : Dv h p) (h2 : Dv h q) (lp : p.length ≤ 5) (lq : q.length ≤ 5) (lc : c.length ≤ 10) (hA : (29 + 2) * 3 ^ (max p.length (q.length + 1)) ≤ 837 * 3 ^ h.length) :
    (∃ v : D, f_combine_to [ofP p, ofP q, ofP c] = .ok v ∧ ((∀ g, IsG g p q → ¬ Dv g c) → v = .non) ∧ ((∃ s t, ∀ x, evl c x = evl s x * evl p x + evl t x * evl q x) → ∃ s t, v = .tup [ofP s, ofP t] ∧ Cmb p q c s t)) := by
  by_cases zq : q = []
  · subst zq
    obtain ⟨v, ev1, iv1⟩ := divides_iff tp tc bp bc (by omega) (by omega) (by omega)
    have tz : T.tst (E.meth 1 f_Poly_is_zero (E.var 1) E.nil) [.val (ofP p), .val (ofP []), .val (ofP c), .no, .no, .no] = .ok true := tst_ok (meth_ok rfl nil_ok (Poly_is_zero_q []))
    have td : T.not (T.tst (E.meth 1 f_Poly_divides (E.var 0) (E.cons (E.var 2) E.nil))) [.val (ofP p), .val (ofP []), .val (ofP c), .no, .no, .no] = .ok (!v) := not_ok (tst_ok (meth_ok rfl (cons_ok rfl nil_ok) ev1))
    cases v with
    | false =>
      refine ⟨.non, ?_, fun _ => rfl, fun ⟨s, t, e⟩ => ?_⟩
      · refine runD_ret [.val (ofP p), .val (ofP []), .val (ofP c), .no, .no, .no] rfl rfl ?_
        unfold b_combine_to
        refine seq_ret ?_
        rw [ite_t tz]
        refine seq_ret ?_
        rw [ite_t td]
        rfl
      · have := iv1.mpr ⟨s, fun x => by rw [e, ev_nil]; grind⟩
        cases this
    | true =>
      have hd := iv1.mp rfl
      by_cases zp : p = []
      · subst zp
        have c0 : c = [] := by
          obtain ⟨s, e⟩ := hd
          exact ev_inj tc tr_nil fun x => by rw [e, ev_nil]; grind
        refine ⟨.tup [ofP [], ofP []], ?_, fun k => absurd hd (k [] (IsG.self [])), fun _ => ⟨[], [], rfl, ⟨tr_nil, tr_nil, fun x => by rw [c0, ev_nil]; grind, fun _ => rfl, fun _ _ => rfl, fun z => absurd rfl z, IB.nil (by omega), IB.nil (by omega), by simp, by simp⟩⟩⟩
        refine runD_ret [.val (ofP []), .val (ofP []), .val (ofP c), .no, .no, .no] rfl rfl ?_
        unfold b_combine_to
        refine seq_ret ?_
        rw [ite_t tz]
        refine (seq_next (ρ' := [.val (ofP []), .val (ofP []), .val (ofP c), .no, .no, .no]) (by rw [ite_f td]; rfl)).trans ?_
        rfl
      · obtain ⟨s, ts, ls, qs, es, ds⟩ := exact_div tc tp zp bc bp hd (by omega) (by omega) (by omega)
        refine ⟨.tup [ofP s, ofP []], ?_, fun k => absurd hd (k p (IsG.self p)), fun _ => ⟨s, [], rfl, ⟨ts, tr_nil, fun x => by rw [es, ev_nil]; grind, fun _ => rfl, fun _ z => absurd z zp, fun z => absurd rfl z, qs.mono (by omega), IB.nil (by omega), by omega, by simp⟩⟩⟩
        refine runD_ret [.val (ofP p), .val (ofP []), .val (ofP c), .no, .no, .no] rfl rfl ?_
        unfold b_combine_to
        refine seq_ret ?_
        rw [ite_t tz]
        refine (seq_next (ρ' := [.val (ofP p), .val (ofP []), .val (ofP c), .no, .no, .no]) (by rw [ite_f td]; rfl)).trans (ret_ok ?_)
        rw [eite_f (show T.tst (E.meth 1 f_Poly_is_zero (E.var 0) E.nil) [.val (ofP p), .val (ofP []), .val (ofP c), .no, .no, .no] = .ok false from tst_ok (meth_ok rfl nil_ok (show f_Poly_is_zero [ofP p] = .ok (.bl false) by rw [Poly_is_zero_q, decide_eq_false zp])))]
        exact tupl_ok (cons_ok (own2_ok rfl rfl (Poly_floordiv_of ds)) (cons_ok rfl nil_ok))
  · obtain ⟨g, u, ef, mG, G, tu, ⟨w, hw⟩, qg, qu, lu⟩ := first_cofactor_q (b := 29) (A := 837) (N := 5) tp tq zq bp bq th h1 h2 lp lq (by omega) hA (by omega) (by omega)
    have gl : g ≠ [] := mG.ne
    have gl0 : 0 < g.length := Nat.pos_of_ne_zero fun z => gl (List.length_eq_zero_iff.mp z)
    have lg : g.length ≤ q.length := (G.r.len mG.tr tq zq).2.1
    obtain ⟨v, ev1, iv1⟩ := divides_iff mG.tr tc qg bc (by omega) (by omega) (by omega)
    have tz : T.tst (E.meth 1 f_Poly_is_zero (E.var 1) E.nil) [.val (ofP p), .val (ofP q), .val (ofP c), .no, .no, .no] = .ok false := tst_ok (meth_ok rfl nil_ok (show f_Poly_is_zero [ofP q] = .ok (.bl false) by rw [Poly_is_zero_q, decide_eq_false zq]))
    have start : ∀ o, (S.seq (S.ite (T.not (T.tst (E.meth 1 f_Poly_divides (E.var 3) (E.cons (E.var 2) E.nil)))) (S.ret (E.c .non)) S.skip) (S.seq (S.set 5 (E.own2 1 f_Poly_mod (E.own2 1 f_Poly_mul (E.var 4) (E.own2 1 f_Poly_floordiv (E.var 2) (E.var 3))) (E.own2 1 f_Poly_floordiv (E.var 1) (E.var 3)))) (S.ret (E.tupl (E.cons (E.var 5) (E.cons (E.own2 1 f_Poly_floordiv (E.own2 1 f_Poly_sub (E.var 2) (E.own2 1 f_Poly_mul (E.var 5) (E.var 0))) (E.var 1)) E.nil)))))) [.val (ofP p), .val (ofP q), .val (ofP c), .val (ofP g), .val (ofP u), .no] = .ret o → f_combine_to [ofP p, ofP q, ofP c] = .ok o := fun o ho => by
      refine runD_ret [.val (ofP p), .val (ofP q), .val (ofP c), .no, .no, .no] rfl rfl ?_
      unfold b_combine_to
      refine (seq_next (ρ' := [.val (ofP p), .val (ofP q), .val (ofP c), .no, .no, .no]) (by rw [ite_f tz]; rfl)).trans ((seq_next ?_).trans ho)
      have e : E.app f_first_cofactor (E.cons (E.var 0) (E.cons (E.var 1) E.nil)) [.val (ofP p), .val (ofP q), .val (ofP c), .no, .no, .no] = .ok (.tup [ofP g, ofP u]) := app_ok (cons_ok rfl (cons_ok rfl nil_ok)) ef
      unfold S.asg S.lift
      rw [e]
      rfl
    have td : T.not (T.tst (E.meth 1 f_Poly_divides (E.var 3) (E.cons (E.var 2) E.nil))) [.val (ofP p), .val (ofP q), .val (ofP c), .val (ofP g), .val (ofP u), .no] = .ok (!v) := not_ok (tst_ok (meth_ok rfl (cons_ok rfl nil_ok) ev1))
    cases v with
    | false =>
      refine ⟨.non, start _ (seq_ret (by rw [ite_t td]; rfl)), fun _ => rfl, fun ⟨s, t, e⟩ => ?_⟩
      have := iv1.mpr (G.l.lin G.r e)
      cases this
    | true =>
      have hd := iv1.mp rfl
      obtain ⟨c1, tc1, lc1, qc1, ec1, dc1⟩ := exact_div tc mG.tr gl bc qg hd (by omega) (by omega) (by omega)
      obtain ⟨q1, tq1, lq1, qq1, eq1, dq1⟩ := exact_div tq mG.tr gl bq qg G.r (by omega) (by omega) (by omega)
      have qc1' : IB 20000 c1 := qc1.mono (by omega)
      have qq1' : IB 11800 q1 := qq1.mono (by omega)
      have qn : q1 ≠ [] := fun z => by rw [z] at lq1; simp at lq1; omega
      have em1 := Poly_mul_q qu.ql qc1'.ql (by omega) (by omega) (by omega)
      have lm1 := pm_len u c1
      have qm1 : IB 24300 (pm u c1) := (IB.pm qu qc1').mono (by omega)
      obtain ⟨t, s, d1, d2, d3, d4, d5, d6, d7⟩ := div_ib (pm_tr u c1) tq1 qn qm1 qq1'
      have hdiv := Poly_divided_i (pm_tr u c1) d1 tq1 qn d2 d3 d4 qm1 qq1' (by omega) (by omega) (by omega)
      have qs : IB 300000 s := d6.mono (by
        have : t.length ≤ 23 := by omega
        have k := Nat.mul_le_mul_right (11800 + 1) this
        omega)
      have lss : s.length ≤ 5 := by omega
      have em2 := Poly_mul_q qs.ql bp.ql (by omega) (by omega) (by omega)
      have lm2 := pm_len s p
      have qm2 : IB 300040 (pm s p) := (IB.pm qs bp).mono (by omega)
      have es1 := Poly_sub_q qm2.pos bc.ql qm2.ql (by omega) (by omega) (by omega)
      have ls1 := psub_len c (pm s p)
      have qs1 : IB 300200 (psub c (pm s p)) := (IB.psub bc qm2).mono (by omega)
      obtain ⟨y, hy⟩ := G.l
      have hdv : Dv q (psub c (pm s p)) := ⟨padd (pm w c1) (pm t y), fun x => by
        rw [ev_psub, ev_pm, ev_padd, ev_pm, ev_pm]
        have e1 := hw x
        have e2 := d4 x
        rw [ev_pm] at e2
        have e3 := eq1 x
        have e4 := hy x
        have e5 := ec1 x
        have k1 : evl c1 x * evl g x = evl c1 x * (evl u x * evl p x + evl w x * evl q x) := by rw [← e1]
        have k2 : evl u x * evl c1 x * evl p x = (evl t x * evl q1 x + evl s x) * evl p x := by rw [e2]
        have k3 : evl t x * evl q1 x * evl p x = evl t x * evl y x * (evl q1 x * evl g x) := by rw [e4]; grind
        rw [← e3] at k3
        grind⟩
      obtain ⟨t', tt, ltt, qt, et, dt⟩ := exact_div (psub_tr _ _) tq zq qs1 bq hdv (by omega) (by omega) (by omega)
      refine ⟨.tup [ofP s, ofP t'], start _ ((seq_next (ρ' := [.val (ofP p), .val (ofP q), .val (ofP c), .val (ofP g), .val (ofP u), .no]) (by rw [ite_f td]; rfl)).trans ((seq_next (ρ' := [.val (ofP p), .val (ofP q), .val (ofP c), .val (ofP g), .val (ofP u), .val (ofP s)]) (set_ok (own2_ok (own2_ok rfl (own2_ok rfl rfl (Poly_floordiv_of dc1)) em1) (own2_ok rfl rfl (Poly_floordiv_of dq1)) (Poly_mod_of hdiv)))).trans (ret_ok (tupl_ok (cons_ok rfl (cons_ok (own2_ok (own2_ok rfl (own2_ok rfl rfl em2) es1) rfl (Poly_floordiv_of dt)) nil_ok)))))), fun k => absurd hd (k g G), fun _ => ⟨s, t', rfl, ⟨d2, tt, fun x => ?_, fun z => absurd z zq, fun z => absurd z zq, fun _ g2 G2 m2 => ?_, qs, qt.mono (by omega), by omega, by omega⟩⟩⟩
      · have := et x
        rw [ev_psub, ev_pm] at this
        grind
      · rw [G2.unique G m2 mG]
        omega
set_option Elab.async false
set_option linter.all false
set_option maxRecDepth 100000
set_option maxHeartbeats 1000000
-- helpers of the laws on polynomials
open PySem L2
theorem cut_mid {α : Type} (xs : List α) (a b : Nat) (h : a ≤ b) (hb : b ≤ xs.length) : De.cut xs (some (a : Int)) (some (b : Int)) = (xs.drop a).take (b - a) := by
  unfold De.cut
  rw [HT.sIx_nat, HT.sIx_nat, Nat.min_eq_left hb, Nat.min_eq_left (by omega)]
theorem neD_tqs (a b : List Rat) : neD (tqs a) (tqs b) = .ok (.bl (!decide (a = b))) := by
  unfold neD eqWith
  rw [toP_tqs, toP_tqs]
  dsimp only
  rw [if_pos ⟨(sh_row a).shaped (by decide), (sh_row b).shaped (by decide)⟩, show PyData.eqv (.tuple (a.map pq)) (.tuple (b.map pq)) = decide (a = b) by simp only [PyData.eqv]; exact eqvAll_pq a b]
  rfl
theorem neS_bl (b : Bool) : neS (.bl b) (.bl b) = .ok (.bl false) := by cases b <;> rfl
theorem nums_hw2 (x : Int) (m : Nat) (hm : 0 < m) (hm2 : m < 100) : ∃ h : Nat, h < m ∧ x.fmod m = (h : Int) := ⟨(x.fmod m).toNat, by
    have a := Int.fmod_nonneg_of_pos x (show (0 : Int) < m by omega)
    have b := Int.fmod_lt_of_pos x (show (0 : Int) < m by omega)
    omega⟩
theorem law_cut_q {xs : List Int} (a b : Nat) (ρ : Env) (n : Nat) (h1 : a ≤ b) (h2 : b ≤ xs.length) (h3 : 2 * n ≤ b - a) (h4 : n ≤ 100) (h5 : ρ[1]? = some (.val (.lst (xs.map D.int)))) : ∃ r : List Rat, r.length = n ∧ QL 4 r ∧ ∀ (f : Env → Res D), f ρ = .ok (nD n) → E.app f_law_poly (E.cons (E.lst (E.cutL (Z.lst (E.var 1)) (E.part (E.c (.int a))) (E.part (E.c (.int b))))) (E.cons f E.nil)) ρ = .ok (tqs (trim r)) := by
  obtain ⟨r, l, q, e⟩ := law_poly_q (xs := (xs.drop a).take (b - a)) (n := n) (by rw [List.length_take, List.length_drop]; omega) h4
  refine ⟨r, l, q, fun f hf => app_ok (cons_ok (lst_ok (cutL_ok (a := some (a : Int)) (b := some (b : Int)) (xs := xs.map D.int) ?_ rfl rfl)) (cons_ok hf nil_ok)) ?_⟩
  · unfold Z.lst E.var
    rw [h5]
    rfl
  · rw [cut_mid _ _ _ h1 (by rw [List.length_map]; omega), ← List.map_drop, ← List.map_take]
    exact e
theorem pm_len' {p q : List Rat} (hp : Tr p) (hq : Tr q) : (pm p q).length ≤ p.length + q.length - 1 := by
  by_cases z1 : p = []
  · have : pm p q = [] := ev_inj (pm_tr _ _) (fun a h => by simp at h) fun x => by rw [ev_pm, z1, ev_nil]; grind
    rw [this]; simp
  · by_cases z2 : q = []
    · have : pm p q = [] := ev_inj (pm_tr _ _) (fun a h => by simp at h) fun x => by rw [ev_pm, z2, ev_nil]; grind
      rw [this]; simp
    · have := mul_len hp z1 hq z2 (pm_tr p q) (ev_pm p q)
      omega
theorem Dv.pm {d p : List Rat} (h : Dv d p) (q : List Rat) : Dv d (De.pm p q) := by
  obtain ⟨s, e⟩ := h
  exact ⟨De.pm s q, fun x => by rw [ev_pm, ev_pm, e]; grind⟩
set_option Elab.async false
set_option linter.all false
set_option maxRecDepth 100000
set_option maxHeartbeats 1000000
open PySem L2
theorem hA13 {e L : Nat} (h : e ≤ L + 3) : (29 + 2) * 3 ^ e ≤ 837 * 3 ^ L := by
  have : 3 ^ e ≤ 3 ^ (L + 3) := Nat.pow_le_pow_right (by decide) h
  rw [Nat.pow_add] at this
  omega
theorem tq_12 : tq (1 / 2 : Rat) = .tup [.int 1, .int 2] := by
  have h1 : (1 / 2 : Rat).num = 1 := by decide +kernel
  have h2 : (1 / 2 : Rat).den = 2 := by decide +kernel
  show D.tup [.int (1 / 2 : Rat).num, .int ((1 / 2 : Rat).den : Int)] = _
  rw [h1, h2]
  rfl
theorem or_ok {f g : Env → Res Bool} {ρ : Env} {a b : Bool} (h : f ρ = .ok a) (h2 : g ρ = .ok b) : T.or f g ρ = .ok (a || b) := by
  cases a with
  | false => exact or_f h h2
  | true => exact or_t h
theorem law_pure (ns : List Int) (h1 : ns.length ≤ 63) (h2 : ∀ z ∈ ns, Builtin.Int.intBits z ≤ 1048576) : f_law [scr ns] = .ok (.bl true) := by
  obtain ⟨xs, lx, bx, ex⟩ := law_draws_q ns 0 50 95 (by omega) (by omega) (by omega)
  have lx4 : xs.length = 50 := lx
  obtain ⟨n0, hn0, en0⟩ := nums_hw2 (xs.getD 0 0) 3 (by omega) (by omega)
  obtain ⟨n1, hn1, en1⟩ := nums_hw2 (xs.getD 1 0) 4 (by omega) (by omega)
  obtain ⟨n2, hn2, en2⟩ := nums_hw2 (xs.getD 2 0) 4 (by omega) (by omega)
  obtain ⟨f0, bf0, ef0⟩ := law_small_q (xs.getD 4 0) (xs.getD 5 0)
  obtain ⟨f1, bf1, ef1⟩ := law_small_q (xs.getD 6 0) (xs.getD 7 0)
  obtain ⟨f2, bf2, ef2⟩ := law_small_q (xs.getD 42 0) (xs.getD 43 0)
  have ix : ∀ j : Nat, j < 50 → atI (xs.map D.int) (j : Int) = some (.int (xs.getD j 0)) := fun j hj => draws_ix (by omega)
  refine runD_ret [.val (scr ns), .no, .no, .no, .no, .no, .no, .no, .no, .no, .no] rfl rfl ?_
  unfold b_law
  refine (seq_next (ρ' := [.val (scr ns), .val (.lst (xs.map D.int)), .no, .no, .no, .no, .no, .no, .no, .no, .no]) (set_ok (lst_ok (appF_ok (cons_ok rfl (cons_ok rfl (cons_ok rfl (cons_ok rfl nil_ok)))) ex)))).trans ?_
  have th : Tr ([f0, f1].take n0 ++ [1]) := fun a e => by
    simp at e
    subst e
    decide
  have lh : ([f0, f1].take n0 ++ [1]).length = n0 + 1 := by
    rw [List.length_append, List.length_take]
    simp
    omega
  have bh : IB 13 ([f0, f1].take n0 ++ [1]) := by
    have q : QL 4 ([f0, f1].take n0 ++ [1]) := .of (by omega) fun x hx => by
      rcases List.mem_append.mp hx with hx | hx
      · have := List.mem_of_mem_take hx
        simp only [List.mem_cons, List.not_mem_nil, or_false] at this
        rcases this with rfl | rfl
        · exact bf0
        · exact bf1
      · rw [List.mem_singleton.mp hx]
        exact Qb.one.mono (by omega)
    exact q.ib.mono (by rw [lh]; omega)
  have eh : E.app f_law_trim (E.cons (E.lst (E.cat (E.cutL (E.disp (E.cons (E.app f_law_small (E.cons (E.ix (Z.seq (E.var 1)) (E.c (.int 4))) (E.cons (E.ix (Z.seq (E.var 1)) (E.c (.int 5))) E.nil))) (E.cons (E.app f_law_small (E.cons (E.ix (Z.seq (E.var 1)) (E.c (.int 6))) (E.cons (E.ix (Z.seq (E.var 1)) (E.c (.int 7))) E.nil))) E.nil))) E.nopart (E.part (E.op2 modI (E.ix (Z.seq (E.var 1)) (E.c (.int 0))) (E.c (.int 3))))) (E.disp (E.cons (E.tupl (E.cons (E.c (.int 1)) (E.cons (E.c (.int 1)) E.nil))) E.nil)))) E.nil) [.val (scr ns), .val (.lst (xs.map D.int)), .no, .no, .no, .no, .no, .no, .no, .no, .no] = .ok (tqs ([f0, f1].take n0 ++ [1])) := by
    have hc : E.cat (E.cutL (E.disp (E.cons (E.app f_law_small (E.cons (E.ix (Z.seq (E.var 1)) (E.c (.int 4))) (E.cons (E.ix (Z.seq (E.var 1)) (E.c (.int 5))) E.nil))) (E.cons (E.app f_law_small (E.cons (E.ix (Z.seq (E.var 1)) (E.c (.int 6))) (E.cons (E.ix (Z.seq (E.var 1)) (E.c (.int 7))) E.nil))) E.nil))) E.nopart (E.part (E.op2 modI (E.ix (Z.seq (E.var 1)) (E.c (.int 0))) (E.c (.int 3))))) (E.disp (E.cons (E.tupl (E.cons (E.c (.int 1)) (E.cons (E.c (.int 1)) E.nil))) E.nil)) [.val (scr ns), .val (.lst (xs.map D.int)), .no, .no, .no, .no, .no, .no, .no, .no, .no] = .ok (([f0, f1].take n0 ++ [1]).map tq) := by
      rw [List.map_append, List.map_take]
      refine cat_ok ?_ (disp_ok (cons_ok (tupl_ok (cons_ok rfl (cons_ok rfl nil_ok))) nil_ok)) (by rw [List.length_take]; simp; omega)
      rw [cutL_ok (a := none) (b := some (n0 : Int)) (disp_ok (cons_ok (app_ok (cons_ok (ix_ok (seq_of (.inr rfl)) rfl (ix 4 (by omega))) (cons_ok (ix_ok (seq_of (.inr rfl)) rfl (ix 5 (by omega))) nil_ok)) ef0) (cons_ok (app_ok (cons_ok (ix_ok (seq_of (.inr rfl)) rfl (ix 6 (by omega))) (cons_ok (ix_ok (seq_of (.inr rfl)) rfl (ix 7 (by omega))) nil_ok)) ef1) nil_ok))) nopart_ok (part_ok (op2_ok (ix_ok (seq_of (.inr rfl)) rfl (ix 0 (by omega))) rfl (by rw [modI_i]; exact congrArg (fun z => Res.ok (D.int z)) en0))), cut_upto]
      rfl
    refine app_ok (cons_ok (lst_ok hc) nil_ok) ?_
    have := law_trim_q (r := [f0, f1].take n0 ++ [1])
    rw [trim_eq th fun _ => rfl] at this
    exact this
  generalize [f0, f1].take n0 ++ [1] = h at th lh bh eh
  refine (seq_next (ρ' := [.val (scr ns), .val (.lst (xs.map D.int)), .val (tqs h), .no, .no, .no, .no, .no, .no, .no, .no]) (set_ok eh)).trans ?_
  have hn : h ≠ [] := fun z => by rw [z] at lh; simp at lh
  obtain ⟨r2, lr2, q2, e2⟩ := law_cut_q (xs := xs) 10 18 [.val (scr ns), .val (.lst (xs.map D.int)), .val (tqs h), .no, .no, .no, .no, .no, .no, .no, .no] n1 (by omega) (by omega) (by omega) (by omega) rfl
  have tl2 := trim_len r2
  have tt2 := trim_tr r2
  have bt2 : IB 13 (trim r2) := (q2.trim (by omega)).ib.mono (by omega)
  generalize trim r2 = a2 at e2 tl2 tt2 bt2
  have pq2 := law_pmul_q bh.ql bt2.ql (by omega) (by omega) (by rw [lh]; have := Nat.mul_le_mul_right (13 + 13 + 1) (show n0 + 1 ≤ 3 by omega); omega)
  refine (seq_next (ρ' := [.val (scr ns), .val (.lst (xs.map D.int)), .val (tqs h), .val (tqs (pm h a2)), .no, .no, .no, .no, .no, .no, .no]) (set_ok (app_ok (cons_ok rfl (cons_ok (e2 _ (op2_ok (ix_ok (seq_of (.inr rfl)) rfl (ix 1 (by omega))) rfl (by rw [modI_i]; exact congrArg (fun z => Res.ok (D.int z)) en1))) nil_ok)) pq2))).trans ?_
  have dv2 : Dv h (pm h a2) := (Dv.refl h).pm a2
  have lp2 : (pm h a2).length ≤ h.length + 2 := by have := pm_len' th tt2; omega
  have ib2 : IB 29 (pm h a2) := (IB.pm bh bt2).mono (by omega)
  have tr2 := pm_tr h a2
  generalize pm h a2 = P2 at dv2 lp2 ib2 tr2
  obtain ⟨r3, lr3, q3, e3⟩ := law_cut_q (xs := xs) 18 26 [.val (scr ns), .val (.lst (xs.map D.int)), .val (tqs h), .val (tqs P2), .no, .no, .no, .no, .no, .no, .no] n2 (by omega) (by omega) (by omega) (by omega) rfl
  have tl3 := trim_len r3
  have tt3 := trim_tr r3
  have bt3 : IB 13 (trim r3) := (q3.trim (by omega)).ib.mono (by omega)
  generalize trim r3 = a3 at e3 tl3 tt3 bt3
  have pq3 := law_pmul_q bh.ql bt3.ql (by omega) (by omega) (by rw [lh]; have := Nat.mul_le_mul_right (13 + 13 + 1) (show n0 + 1 ≤ 3 by omega); omega)
  refine (seq_next (ρ' := [.val (scr ns), .val (.lst (xs.map D.int)), .val (tqs h), .val (tqs P2), .val (tqs (pm h a3)), .no, .no, .no, .no, .no, .no]) (set_ok (app_ok (cons_ok rfl (cons_ok (e3 _ (op2_ok (ix_ok (seq_of (.inr rfl)) rfl (ix 2 (by omega))) rfl (by rw [modI_i]; exact congrArg (fun z => Res.ok (D.int z)) en2))) nil_ok)) pq3))).trans ?_
  have dv3 : Dv h (pm h a3) := (Dv.refl h).pm a3
  have lp3 : (pm h a3).length ≤ h.length + 2 := by have := pm_len' th tt3; omega
  have ib3 : IB 29 (pm h a3) := (IB.pm bh bt3).mono (by omega)
  have tr3 := pm_tr h a3
  generalize pm h a3 = P3 at dv3 lp3 ib3 tr3
  obtain ⟨q, Tq, dq, lq, bq, eq⟩ : ∃ q : List Rat, Tr q ∧ Dv h q ∧ q.length ≤ h.length + 2 ∧ IB 29 q ∧ S.ite (T.or (T.tst (E.op2 eqS (E.op2 modI (E.ix (Z.seq (E.var 1)) (E.c (.int 3))) (E.c (.int 6))) (E.c (.int 0)))) (T.tst (E.op2 eqS (E.op2 modI (E.ix (Z.seq (E.var 1)) (E.c (.int 3))) (E.c (.int 12))) (E.c (.int 2))))) (S.set 4 (E.tupl E.nil)) S.skip [.val (scr ns), .val (.lst (xs.map D.int)), .val (tqs h), .val (tqs P2), .val (tqs P3), .no, .no, .no, .no, .no, .no] = .next [.val (scr ns), .val (.lst (xs.map D.int)), .val (tqs h), .val (tqs P2), .val (tqs q), .no, .no, .no, .no, .no, .no] := by
    have hm : T.or (T.tst (E.op2 eqS (E.op2 modI (E.ix (Z.seq (E.var 1)) (E.c (.int 3))) (E.c (.int 6))) (E.c (.int 0)))) (T.tst (E.op2 eqS (E.op2 modI (E.ix (Z.seq (E.var 1)) (E.c (.int 3))) (E.c (.int 12))) (E.c (.int 2)))) [.val (scr ns), .val (.lst (xs.map D.int)), .val (tqs h), .val (tqs P2), .val (tqs P3), .no, .no, .no, .no, .no, .no] = .ok (decide ((xs.getD 3 0).fmod 6 = 0) || decide ((xs.getD 3 0).fmod 12 = 2)) :=
      or_ok (tst_ok (op2_ok (op2_ok (ix_ok (seq_of (.inr rfl)) rfl (ix 3 (by omega))) rfl (z := .int ((xs.getD 3 0).fmod 6)) (by rw [modI_i]; rfl)) rfl (eqS_int _ _))) (tst_ok (op2_ok (op2_ok (ix_ok (seq_of (.inr rfl)) rfl (ix 3 (by omega))) rfl (z := .int ((xs.getD 3 0).fmod 12)) (by rw [modI_i]; rfl)) rfl (eqS_int _ _)))
    generalize (decide ((xs.getD 3 0).fmod 6 = 0) || decide ((xs.getD 3 0).fmod 12 = 2)) = v at hm
    cases v with
    | true => exact ⟨[], tr_nil, Dv.zero h, by simp, IB.nil (by omega), by rw [ite_t hm]; rfl⟩
    | false => exact ⟨P3, tr3, dv3, lp3, ib3, by rw [ite_f hm]; rfl⟩
  refine (seq_next eq).trans ?_
  obtain ⟨p, Tp, dp, lp, bp, ep⟩ : ∃ p : List Rat, Tr p ∧ Dv h p ∧ p.length ≤ h.length + 2 ∧ IB 29 p ∧ S.ite (T.or (T.tst (E.op2 eqS (E.op2 modI (E.ix (Z.seq (E.var 1)) (E.c (.int 3))) (E.c (.int 6))) (E.c (.int 1)))) (T.tst (E.op2 eqS (E.op2 modI (E.ix (Z.seq (E.var 1)) (E.c (.int 3))) (E.c (.int 12))) (E.c (.int 2))))) (S.set 3 (E.tupl E.nil)) S.skip [.val (scr ns), .val (.lst (xs.map D.int)), .val (tqs h), .val (tqs P2), .val (tqs q), .no, .no, .no, .no, .no, .no] = .next [.val (scr ns), .val (.lst (xs.map D.int)), .val (tqs h), .val (tqs p), .val (tqs q), .no, .no, .no, .no, .no, .no] := by
    have hm : T.or (T.tst (E.op2 eqS (E.op2 modI (E.ix (Z.seq (E.var 1)) (E.c (.int 3))) (E.c (.int 6))) (E.c (.int 1)))) (T.tst (E.op2 eqS (E.op2 modI (E.ix (Z.seq (E.var 1)) (E.c (.int 3))) (E.c (.int 12))) (E.c (.int 2)))) [.val (scr ns), .val (.lst (xs.map D.int)), .val (tqs h), .val (tqs P2), .val (tqs q), .no, .no, .no, .no, .no, .no] = .ok (decide ((xs.getD 3 0).fmod 6 = 1) || decide ((xs.getD 3 0).fmod 12 = 2)) :=
      or_ok (tst_ok (op2_ok (op2_ok (ix_ok (seq_of (.inr rfl)) rfl (ix 3 (by omega))) rfl (z := .int ((xs.getD 3 0).fmod 6)) (by rw [modI_i]; rfl)) rfl (eqS_int _ _))) (tst_ok (op2_ok (op2_ok (ix_ok (seq_of (.inr rfl)) rfl (ix 3 (by omega))) rfl (z := .int ((xs.getD 3 0).fmod 12)) (by rw [modI_i]; rfl)) rfl (eqS_int _ _)))
    generalize (decide ((xs.getD 3 0).fmod 6 = 1) || decide ((xs.getD 3 0).fmod 12 = 2)) = v at hm
    cases v with
    | true => exact ⟨[], tr_nil, Dv.zero h, by simp, IB.nil (by omega), by rw [ite_t hm]; rfl⟩
    | false => exact ⟨P2, tr2, dv2, lp2, ib2, by rw [ite_f hm]; rfl⟩
  refine (seq_next ep).trans ?_
  obtain ⟨r4, lr4, q4, e4⟩ := law_cut_q (xs := xs) 26 34 [.val (scr ns), .val (.lst (xs.map D.int)), .val (tqs h), .val (tqs p), .val (tqs q), .no, .no, .no, .no, .no, .no] 4 (by omega) (by omega) (by omega) (by omega) rfl
  obtain ⟨r5, lr5, q5, e5⟩ := law_cut_q (xs := xs) 34 42 [.val (scr ns), .val (.lst (xs.map D.int)), .val (tqs h), .val (tqs p), .val (tqs q), .no, .no, .no, .no, .no, .no] 4 (by omega) (by omega) (by omega) (by omega) rfl
  have bt4 : IB 17 (trim r4) := (q4.trim (by omega)).ib.mono (by have := trim_len r4; omega)
  have bt5 : IB 17 (trim r5) := (q5.trim (by omega)).ib.mono (by have := trim_len r5; omega)
  have tl4 := trim_len r4
  have tl5 := trim_len r5
  have tt4 := trim_tr r4
  have tt5 := trim_tr r5
  generalize trim r4 = a4 at e4 tl4 tt4 bt4
  generalize trim r5 = a5 at e5 tl5 tt5 bt5
  have pq4 := law_pmul_q bt4.ql bp.ql (by omega) (by omega) (by have := Nat.mul_le_mul_right (17 + 29 + 1) (show a4.length ≤ 4 by omega); omega)
  have pq5 := law_pmul_q bt5.ql bq.ql (by omega) (by omega) (by have := Nat.mul_le_mul_right (17 + 29 + 1) (show a5.length ≤ 4 by omega); omega)
  have ln4 := pm_len' tt4 Tp
  have ln5 := pm_len' tt5 Tq
  have b4 : IB 50 (pm a4 p) := (IB.pm bt4 bp).mono (by omega)
  have b5 : IB 50 (pm a5 q) := (IB.pm bt5 bq).mono (by omega)
  have ead := law_padd_q b4.ql b5.ql (by omega) (by omega) (by omega)
  have tc := trim_tr (padd (pm a4 p) (pm a5 q))
  have lc : (trim (padd (pm a4 p) (pm a5 q))).length ≤ 8 := by
    have := trim_len (padd (pm a4 p) (pm a5 q))
    rw [padd_len] at this
    omega
  have bc : IB 101 (trim (padd (pm a4 p) (pm a5 q))) := (b4.padd b5).trim
  have evc : ∀ x, evl (trim (padd (pm a4 p) (pm a5 q))) x = evl a4 x * evl p x + evl a5 x * evl q x := fun x => by rw [ev_trim, ev_padd, ev_pm, ev_pm]
  generalize trim (padd (pm a4 p) (pm a5 q)) = c at ead tc lc bc evc
  refine (seq_next (ρ' := [.val (scr ns), .val (.lst (xs.map D.int)), .val (tqs h), .val (tqs p), .val (tqs q), .val (tqs c), .no, .no, .no, .no, .no]) (set_ok (app_ok (cons_ok (app_ok (cons_ok (e4 _ rfl) (cons_ok rfl nil_ok)) pq4) (cons_ok (app_ok (cons_ok (e5 _ rfl) (cons_ok rfl nil_ok)) pq5) nil_ok)) ead))).trans ?_
  have emp := law_make_q (r := p) (by omega)
  rw [trim_eq Tp fun _ => rfl] at emp
  have emq := law_make_q (r := q) (by omega)
  rw [trim_eq Tq fun _ => rfl] at emq
  have emc := law_make_q (r := c) (by omega)
  rw [trim_eq tc fun _ => rfl] at emc
  have hm1 : max p.length (q.length + 1) ≤ h.length + 3 := by omega
  have cmb := fun (c : List Rat) (tc : Tr c) (bc : IB 120 c) (lc : c.length ≤ 10) => combine_q Tp Tq tc bp bq bc th dp dq (by omega) (by omega) lc (hA13 hm1)
  obtain ⟨v, ev0, _, iv⟩ := cmb c tc (bc.mono (by omega)) (by omega)
  obtain ⟨s, t, rfl, C⟩ := iv ⟨a4, a5, evc⟩
  obtain ⟨g, eg, tg, G, mg, _, zg⟩ := common_divisor_q (b := 29) (A := 837) (N := 5) Tp Tq bp bq th dp dq (by omega) (by omega) (by omega) (by omega) (hA13 hm1) (by omega)
  have lg : g.length ≤ 6 := by
    by_cases z : p = []
    · by_cases z' : q = []
      · rw [zg z z']; simp
      · have := (G.r.len tg Tq z').2.1
        omega
    · have := (G.l.len tg Tp z).2.1
      omega
  have mk3 : E.cons (E.app f_law_make (E.cons (E.var 3) E.nil)) (E.cons (E.app f_law_make (E.cons (E.var 4) E.nil)) (E.cons (E.app f_law_make (E.cons (E.var 5) E.nil)) E.nil)) [.val (scr ns), .val (.lst (xs.map D.int)), .val (tqs h), .val (tqs p), .val (tqs q), .val (tqs c), .no, .no, .no, .no, .no] = .ok [ofP p, ofP q, ofP c] := cons_ok (app_ok (cons_ok rfl nil_ok) emp) (cons_ok (app_ok (cons_ok rfl nil_ok) emq) (cons_ok (app_ok (cons_ok rfl nil_ok) emc) nil_ok))
  refine (seq_next (ρ' := [.val (scr ns), .val (.lst (xs.map D.int)), .val (tqs h), .val (tqs p), .val (tqs q), .val (tqs c), .val (.tup [ofP s, ofP t]), .no, .no, .no, .no]) (set_ok (app_ok mk3 ev0))).trans ?_
  refine (seq_next (ρ' := [.val (scr ns), .val (.lst (xs.map D.int)), .val (tqs h), .val (tqs p), .val (tqs q), .val (tqs c), .val (.tup [ofP s, ofP t]), .no, .no, .no, .no]) (by rw [ite_f (show _ = Res.ok false from rfl)]; rfl)).trans ?_
  have rs := law_row_q C.ts (by have := C.ls; omega)
  have rt := law_row_q C.tt (by have := C.lt; omega)
  have isn : ∀ a : List Rat, isN (tqs a) = .ok (.bl false) := fun a => rfl
  have eqn : ∀ a : List Rat, eqD (tqs a) (.tup []) = .ok (.bl (decide (a = []))) := fun a => eqD_tqs a []
  have nen : ∀ a : List Rat, neD (tqs a) (.tup []) = .ok (.bl (!decide (a = []))) := fun a => neD_tqs a []
  have e0 : ∀ (i : Nat) (ρ : Env) (a : List Rat), E.var i ρ = .ok (tqs a) → T.tst (E.op2 eqD (E.var i) (E.tupl E.nil)) ρ = .ok (decide (a = [])) := fun i ρ a h => tst_ok (op2_ok h (tupl_ok nil_ok) (eqn a))
  have n0 : ∀ (i : Nat) (ρ : Env) (a : List Rat), E.var i ρ = .ok (tqs a) → T.tst (E.op2 neD (E.var i) (E.tupl E.nil)) ρ = .ok (!decide (a = [])) := fun i ρ a h => tst_ok (op2_ok h (tupl_ok nil_ok) (nen a))
  refine (seq_next (ρ' := [.val (scr ns), .val (.lst (xs.map D.int)), .val (tqs h), .val (tqs p), .val (tqs q), .val (tqs c), .val (.tup [ofP s, ofP t]), .val (tqs s), .val (tqs t), .no, .no]) (par_ok (cons_ok (app_ok (cons_ok (ix_ok (i := 0) (seq_of (.inl rfl)) rfl (atI_0 _ _)) nil_ok) rs) (cons_ok (app_ok (cons_ok (ix_ok (i := 1) (seq_of (.inl rfl)) rfl (atI_1 _ _ _)) nil_ok) rt) nil_ok)) (by simp))).trans ?_
  have ls := C.ls
  have lt := C.lt
  have em1 := law_pmul_q C.bs.ql bp.ql (by omega) (by omega) (by omega)
  have em2 := law_pmul_q C.bt.ql bq.ql (by omega) (by omega) (by omega)
  have lm1 := pm_len s p
  have lm2 := pm_len t q
  have ea2 := law_padd_q (IB.pm C.bs bp).ql (IB.pm C.bt bq).ql (by omega) (by omega) (by omega)
  rw [trim_eq tc fun x => by rw [ev_padd, ev_pm, ev_pm, C.eq]] at ea2
  refine (seq_next (ρ' := [.val (scr ns), .val (.lst (xs.map D.int)), .val (tqs h), .val (tqs p), .val (tqs q), .val (tqs c), .val (.tup [ofP s, ofP t]), .val (tqs s), .val (tqs t), .no, .no]) (by rw [ite_f (or_f (tst_ok (op1_ok rfl (isn _))) (or_f (tst_ok (op1_ok rfl (isn _))) (tst_ok (op2_ok (app_ok (cons_ok (app_ok (cons_ok rfl (cons_ok rfl nil_ok)) em1) (cons_ok (app_ok (cons_ok rfl (cons_ok rfl nil_ok)) em2) nil_ok)) ea2) rfl (eq_tqs c).2))))]; rfl)).trans ?_
  have rg := law_row_q tg (by omega)
  refine (seq_next (ρ' := [.val (scr ns), .val (.lst (xs.map D.int)), .val (tqs h), .val (tqs p), .val (tqs q), .val (tqs c), .val (.tup [ofP s, ofP t]), .val (tqs s), .val (tqs t), .val (tqs g), .no]) (set_ok (app_ok (cons_ok (app_ok (cons_ok (app_ok (cons_ok rfl nil_ok) emp) (cons_ok (app_ok (cons_ok rfl nil_ok) emq) nil_ok)) eg) nil_ok) rg))).trans ?_
  have c1 : T.or (T.and (T.tst (E.op2 eqD (E.var 4) (E.tupl E.nil))) (T.tst (E.op2 neD (E.var 8) (E.tupl E.nil)))) (T.and (T.tst (E.op2 eqD (E.var 4) (E.tupl E.nil))) (T.and (T.tst (E.op2 eqD (E.var 3) (E.tupl E.nil))) (T.tst (E.op2 neD (E.var 7) (E.tupl E.nil))))) [.val (scr ns), .val (.lst (xs.map D.int)), .val (tqs h), .val (tqs p), .val (tqs q), .val (tqs c), .val (.tup [ofP s, ofP t]), .val (tqs s), .val (tqs t), .val (tqs g), .no] = .ok false := by
    have k4 := e0 4 [.val (scr ns), .val (.lst (xs.map D.int)), .val (tqs h), .val (tqs p), .val (tqs q), .val (tqs c), .val (.tup [ofP s, ofP t]), .val (tqs s), .val (tqs t), .val (tqs g), .no] q rfl
    have k3 := e0 3 [.val (scr ns), .val (.lst (xs.map D.int)), .val (tqs h), .val (tqs p), .val (tqs q), .val (tqs c), .val (.tup [ofP s, ofP t]), .val (tqs s), .val (tqs t), .val (tqs g), .no] p rfl
    have k8 := n0 8 [.val (scr ns), .val (.lst (xs.map D.int)), .val (tqs h), .val (tqs p), .val (tqs q), .val (tqs c), .val (.tup [ofP s, ofP t]), .val (tqs s), .val (tqs t), .val (tqs g), .no] t rfl
    have k7 := n0 7 [.val (scr ns), .val (.lst (xs.map D.int)), .val (tqs h), .val (tqs p), .val (tqs q), .val (tqs c), .val (.tup [ofP s, ofP t]), .val (tqs s), .val (tqs t), .val (tqs g), .no] s rfl
    by_cases z : q = []
    · rw [decide_eq_true z] at k4
      rw [decide_eq_true (C.q0 z)] at k8
      refine or_f (and_t k4 k8) (and_t k4 ?_)
      by_cases z2 : p = []
      · rw [decide_eq_true z2] at k3
        rw [decide_eq_true (C.pq0 z z2)] at k7
        exact and_t k3 k7
      · rw [decide_eq_false z2] at k3
        exact and_f k3
    · rw [decide_eq_false z] at k4
      exact or_f (and_f k4) (and_f k4)
  refine (seq_next (ρ' := [.val (scr ns), .val (.lst (xs.map D.int)), .val (tqs h), .val (tqs p), .val (tqs q), .val (tqs c), .val (.tup [ofP s, ofP t]), .val (tqs s), .val (tqs t), .val (tqs g), .no]) (by rw [ite_f c1]; rfl)).trans ?_
  have c2 : T.and (T.tst (E.op2 neD (E.var 4) (E.tupl E.nil))) (T.and (T.tst (E.op2 neD (E.var 7) (E.tupl E.nil))) (T.tst (E.op2 gtI (E.len (Z.seq (E.var 7))) (E.op2 subI (E.len (Z.seq (E.var 4))) (E.len (Z.seq (E.var 9))))))) [.val (scr ns), .val (.lst (xs.map D.int)), .val (tqs h), .val (tqs p), .val (tqs q), .val (tqs c), .val (.tup [ofP s, ofP t]), .val (tqs s), .val (tqs t), .val (tqs g), .no] = .ok false := by
    have k4 := n0 4 [.val (scr ns), .val (.lst (xs.map D.int)), .val (tqs h), .val (tqs p), .val (tqs q), .val (tqs c), .val (.tup [ofP s, ofP t]), .val (tqs s), .val (tqs t), .val (tqs g), .no] q rfl
    have k7 := n0 7 [.val (scr ns), .val (.lst (xs.map D.int)), .val (tqs h), .val (tqs p), .val (tqs q), .val (tqs c), .val (.tup [ofP s, ofP t]), .val (tqs s), .val (tqs t), .val (tqs g), .no] s rfl
    by_cases z : q = []
    · rw [decide_eq_true z] at k4
      exact and_f k4
    · rw [decide_eq_false z] at k4
      refine and_t k4 ?_
      by_cases z2 : s = []
      · rw [decide_eq_true z2] at k7
        exact and_f k7
      · rw [decide_eq_false z2] at k7
        refine and_t k7 (tst_ok (op2_ok (len_ok (n := s.length) rfl (List.length_map _)) (op2_ok (len_ok (n := q.length) rfl (List.length_map _)) (len_ok (n := g.length) rfl (List.length_map _)) (subI_i _ _)) ?_))
        have := C.len z g G (mg (.inr z))
        rw [gtI_i, decide_eq_false (by omega)]
  refine (seq_next (ρ' := [.val (scr ns), .val (.lst (xs.map D.int)), .val (tqs h), .val (tqs p), .val (tqs q), .val (tqs c), .val (.tup [ofP s, ofP t]), .val (tqs s), .val (tqs t), .val (tqs g), .no]) (by rw [ite_f c2]; rfl)).trans ?_
  refine (seq_next (ρ' := [.val (scr ns), .val (.lst (xs.map D.int)), .val (tqs h), .val (tqs p), .val (tqs q), .val (tqs c), .val (.tup [ofP s, ofP t]), .val (tqs s), .val (tqs t), .val (tqs g), .val (tq f2)]) (set_ok (app_ok (cons_ok (ix_ok (seq_of (.inr rfl)) rfl (ix 42 (by omega))) (cons_ok (ix_ok (seq_of (.inr rfl)) rfl (ix 43 (by omega))) nil_ok)) ef2))).trans ?_
  obtain ⟨k, k0, bk, ek⟩ : ∃ k : Rat, k ≠ 0 ∧ Qb 4 k ∧ S.ite (T.tst (E.op2 eqS (E.ix (Z.seq (E.var 10)) (E.c (.int 0))) (E.c (.int 0)))) (S.set 10 (E.tupl (E.cons (E.c (.int 1)) (E.cons (E.c (.int 2)) E.nil)))) S.skip [.val (scr ns), .val (.lst (xs.map D.int)), .val (tqs h), .val (tqs p), .val (tqs q), .val (tqs c), .val (.tup [ofP s, ofP t]), .val (tqs s), .val (tqs t), .val (tqs g), .val (tq f2)] = .next [.val (scr ns), .val (.lst (xs.map D.int)), .val (tqs h), .val (tqs p), .val (tqs q), .val (tqs c), .val (.tup [ofP s, ofP t]), .val (tqs s), .val (tqs t), .val (tqs g), .val (tq k)] := by
    have hm : T.tst (E.op2 eqS (E.ix (Z.seq (E.var 10)) (E.c (.int 0))) (E.c (.int 0))) [.val (scr ns), .val (.lst (xs.map D.int)), .val (tqs h), .val (tqs p), .val (tqs q), .val (tqs c), .val (.tup [ofP s, ofP t]), .val (tqs s), .val (tqs t), .val (tqs g), .val (tq f2)] = .ok (decide (f2 = 0)) := tst_ok (op2_ok (ix_ok (seq_of (.inl rfl)) rfl (tq_0 f2)) rfl (eqS_num f2))
    by_cases z : f2 = 0
    · rw [decide_eq_true z] at hm
      refine ⟨1 / 2, by decide +kernel, ⟨by decide +kernel, by decide +kernel⟩, ?_⟩
      rw [ite_t hm, tq_12]
      rfl
    · rw [decide_eq_false z] at hm
      exact ⟨f2, z, bf2, by rw [ite_f hm]; rfl⟩
  refine (seq_next ek).trans ?_
  have kt : Tr [k] := fun a e => by simp at e; subst e; exact k0
  have bk1 : IB 5 [k] := IB.one_of bk (by omega)
  have ea3 := law_padd_q bc.ql bk1.ql (by omega) (by simp) (by omega)
  have tc3 := trim_tr (padd c [k])
  have lc3 : (trim (padd c [k])).length ≤ 9 := by
    have y := trim_len (padd c [k])
    rw [padd_len, show [k].length = 1 from rfl] at y
    clear ea2 em1 em2 c1 c2 ev0
    omega
  have bc3 : IB 107 (trim (padd c [k])) := (bc.padd bk1).trim
  have evc3 : ∀ x, evl (trim (padd c [k])) x = evl c x + k := fun x => by rw [ev_trim, ev_padd, ev_cons, ev_nil]; grind
  have emc3 := law_make_q (r := trim (padd c [k])) (by omega)
  rw [trim_eq tc3 fun _ => rfl] at emc3
  have hh : T.tst (E.op2 gtI (E.len (Z.seq (E.var 2))) (E.c (.int 1))) [.val (scr ns), .val (.lst (xs.map D.int)), .val (tqs h), .val (tqs p), .val (tqs q), .val (tqs c), .val (.tup [ofP s, ofP t]), .val (tqs s), .val (tqs t), .val (tqs g), .val (tq k)] = .ok (decide (1 < h.length)) := by
    refine tst_ok (op2_ok (len_ok (n := h.length) rfl (List.length_map _)) rfl ?_)
    rw [gtI_i]
    exact congrArg (fun b => Res.ok (D.bl b)) (decide_eq_decide.mpr (by omega))
  have hg := e0 9 [.val (scr ns), .val (.lst (xs.map D.int)), .val (tqs h), .val (tqs p), .val (tqs q), .val (tqs c), .val (.tup [ofP s, ofP t]), .val (tqs s), .val (tqs t), .val (tqs g), .val (tq k)] g rfl
  have hor := or_ok hh hg
  by_cases zz : 1 < h.length ∨ g = []
  · have hv : (decide (1 < h.length) || decide (g = [])) = true := by
      rcases zz with z | z
      · rw [decide_eq_true z]; rfl
      · rw [decide_eq_true z, Bool.or_true]
    rw [hv] at hor
    obtain ⟨v3, ev3, no3, _⟩ := cmb _ tc3 (bc3.mono (by omega)) (by omega)
    have hno : v3 = .non := no3 fun g' G' d' => by
      rcases zz with z | z
      · have d1 : Dv h (trim (padd c [k])) := (G'.max h dp dq).trans d'
        have d2 : Dv h c := dp.lin dq evc
        have d3 : Dv h [k] := d1.lin d2 (u := [1]) (w := [-1]) fun x => by rw [evc3, ev_cons, ev_cons, ev_cons, ev_nil]; grind
        have := (d3.len th kt (by simp)).2.1
        simp at this
        omega
      · have pq : p = [] ∧ q = [] := by
          by_cases y1 : p = []
          · by_cases y2 : q = []
            · exact ⟨y1, y2⟩
            · exact absurd z (mg (.inr y2)).ne
          · exact absurd z (mg (.inl y1)).ne
        obtain ⟨w1, hw1⟩ := G'.max [] (by rw [pq.1]; exact Dv.zero _) (by rw [pq.2]; exact Dv.zero _)
        obtain ⟨w2, hw2⟩ := d'
        have y3 := hw2 0
        rw [hw1 0, evc3, evc, pq.1, pq.2, ev_nil] at y3
        apply k0
        grind
    subst hno
    refine seq_ret ?_
    rw [ite_t hor]
    exact ret_ok (op1_ok (app_ok (cons_ok (app_ok (cons_ok rfl nil_ok) emp) (cons_ok (app_ok (cons_ok rfl nil_ok) emq) (cons_ok (app_ok (cons_ok (app_ok (cons_ok rfl (cons_ok (tupl_ok (cons_ok rfl nil_ok)) nil_ok)) ea3) nil_ok) emc3) nil_ok))) ev3) rfl)
  · have hv : (decide (1 < h.length) || decide (g = [])) = false := by
      rw [decide_eq_false fun z => zz (.inl z), decide_eq_false fun z => zz (.inr z)]
      rfl
    rw [hv] at hor
    refine (seq_next (ρ' := [.val (scr ns), .val (.lst (xs.map D.int)), .val (tqs h), .val (tqs p), .val (tqs q), .val (tqs c), .val (.tup [ofP s, ofP t]), .val (tqs s), .val (tqs t), .val (tqs g), .val (tq k)]) (by rw [ite_f hor]; rfl)).trans ?_
    rfl
theorem law_holds : PySem.Challenge.rw_indicial_k13_linear_combinations.Holds := law_kept law_pure
end De
theorem PySem.Challenge.cw_indicial_k13_linear_combinations_holds : PySem.Challenge.rw_indicial_k13_linear_combinations.Holds :=
  De.law_holds
