import PyProof.Rows.All
import Wide.All
import OpenK.AllK
import Wide.FinOn
import HandS.ForMost
import HandS.ForExc
import HandS.CallSlots
import HandS.Property
import HandS.Defaults
import HandS.Gcd
import HandS.IsInst
import HandS.Conv
import KE.KOpsOwn
import HandS.Walk
import HandS.TryOnly
import HandS.HeadHook2
import HandS.Head0
import HandS.Head1
import HandS.Head2
import HandS.Head3
import HandS.HeadEnd
import HandS.HeadHook1
import HandS.EndBits
import PySem.Challenge.RW_indicial_k01_arithmetic
namespace De
set_option Elab.async false
set_option linter.all false
set_option maxRecDepth 100000
set_option maxHeartbeats 4000000
/-! ### values without heap, results -/
open PySem L2
inductive D where
  | non | bl (b : Bool) | int (i : Int) | str (x : Str) | tup (ds : List D) | lst (ds : List D) | obj (c : Nat) (fs : List D)
structure Exn where
  c : Nat
  fs : List D
inductive Res (α : Type) where
  | stuck | ok (a : α) | exc (x : Exn)
def Res.bind {α β : Type} : Res α → (α → Res β) → Res β
  | .stuck, _ => .stuck
  | .ok a, f => f a
  | .exc x, _ => .exc x
@[simp] theorem Res.bind_ok {α β : Type} (a : α) (f : α → Res β) : Res.bind (.ok a) f = f a := rfl
@[simp] theorem Res.bind_stuck {α β : Type} (f : α → Res β) : Res.bind .stuck f = .stuck := rfl
@[simp] theorem Res.bind_exc {α β : Type} (x : Exn) (f : α → Res β) : Res.bind (.exc x) f = .exc x := rfl
/-- what a program's text is read over: the written part, the classes by tags -/
structure Gam where
  P : Program
  w : World
  K : PySem.W.Frag
  mg : Str → Option Value
  base : Heap
  cls : Nat → Addr
  fld : Nat → List Str
def KTup (K : PySem.W.Frag) (a : Addr) (xs : List V) : Prop := ∃ (o : Obj) (its : Array Value) (n : Nat), K.lookup a = some o ∧ o.cls = .type "tuple" ∧ o.data = .seq its n ∧ its.size ≤ sizeLine ∧ Vals xs its.toList
def KLst (K : PySem.W.Frag) (a : Addr) (xs : List V) : Prop := ∃ (o : Obj) (its : Array Value) (n : Nat), K.lookup a = some o ∧ o.cls = .type "list" ∧ o.dict = none ∧ o.data = .seq its n ∧ its.size ≤ sizeLine ∧ Vals xs its.toList
def TupAt (Γ : Gam) (M : Addr → Prop) (H : Hp) (a : Addr) (vs : List V) : Prop := (Rd H a (.tup vs) ∧ ¬ M a) ∨ KTup Γ.K a vs
def LstAt (Γ : Gam) (M : Addr → Prop) (H : Hp) (a : Addr) (vs : List V) : Prop := (Rd H a (.lst vs) ∧ ¬ M a) ∨ KLst Γ.K a vs
theorem TupAt.sq {Γ : Gam} {M : Addr → Prop} {H : Hp} {a : Addr} {vs : List V} (h : TupAt Γ M H a vs) : SqT Γ.K H a vs := h.elim (fun h => .inl h.1) .inr
theorem LstAt.sq {Γ : Gam} {M : Addr → Prop} {H : Hp} {a : Addr} {vs : List V} (h : LstAt Γ M H a vs) : SqL Γ.K H a vs := h.elim (fun h => .inl h.1) .inr
/-! ### the value v stands for the datum d, away from the addresses M -/
mutual
def Rp (Γ : Gam) (M : Addr → Prop) (H : Hp) : D → V → Prop
  | .non, v => v = .non
  | .bl b, v => v = .bl b
  | .int i, v => v = .int i
  | .str x, v => v = .str x
  | .tup ds, v => ∃ a vs, v = .ref a ∧ TupAt Γ M H a vs ∧ RpL Γ M H ds vs
  | .lst ds, v => ∃ a vs, v = .ref a ∧ LstAt Γ M H a vs ∧ RpL Γ M H ds vs
  | .obj c fs, v => ∃ a dx us, v = .ref a ∧ H a = some (.ins (Γ.cls c) dx us) ∧ ¬ M a ∧ us.map (·.1) = (Γ.fld c).take us.length ∧ RpL Γ M H fs (us.map (·.2))
def RpL (Γ : Gam) (M : Addr → Prop) (H : Hp) : List D → List V → Prop
  | [], vs => vs = []
  | d :: ds, vs => ∃ v r, vs = v :: r ∧ Rp Γ M H d v ∧ RpL Γ M H ds r
end
/-- what is tracked and not in M is kept, and not in M' -/
def Imp (M M' : Addr → Prop) (H H' : Hp) : Prop := ∀ a o, H a = some o → ¬ M a → ¬ M' a ∧ H' a = some o
section
variable {Γ : Gam} {M M' : Addr → Prop} {H H' : Hp}
theorem TupAt.imp (k : Imp M M' H H') {a : Addr} {vs : List V} (h : TupAt Γ M H a vs) : TupAt Γ M' H' a vs := by
  rcases h with ⟨h, n⟩ | h
  · rcases h with h | ⟨o, h⟩
    · exact .inl ⟨.inl (k a _ h n).2, (k a _ h n).1⟩
    · exact .inl ⟨.inr ⟨o, (k a _ h n).2⟩, (k a _ h n).1⟩
  · exact .inr h
theorem LstAt.imp (k : Imp M M' H H') {a : Addr} {vs : List V} (h : LstAt Γ M H a vs) : LstAt Γ M' H' a vs := by
  rcases h with ⟨h, n⟩ | h
  · rcases h with h | ⟨o, h⟩
    · exact .inl ⟨.inl (k a _ h n).2, (k a _ h n).1⟩
    · exact .inl ⟨.inr ⟨o, (k a _ h n).2⟩, (k a _ h n).1⟩
  · exact .inr h
mutual
theorem Rp.imp (k : Imp M M' H H') : ∀ (d : D) (v : V), Rp Γ M H d v → Rp Γ M' H' d v
  | .non, v, h => by rw [Rp] at h ⊢; exact h
  | .bl b, v, h => by rw [Rp] at h ⊢; exact h
  | .int i, v, h => by rw [Rp] at h ⊢; exact h
  | .str x, v, h => by rw [Rp] at h ⊢; exact h
  | .tup ds, v, h => by
    rw [Rp] at h ⊢
    obtain ⟨a, vs, e, t, r⟩ := h
    exact ⟨a, vs, e, t.imp k, RpL.imp k ds vs r⟩
  | .lst ds, v, h => by
    rw [Rp] at h ⊢
    obtain ⟨a, vs, e, t, r⟩ := h
    exact ⟨a, vs, e, t.imp k, RpL.imp k ds vs r⟩
  | .obj c fs, v, h => by
    rw [Rp] at h ⊢
    obtain ⟨a, dx, us, e, t, n, m, r⟩ := h
    exact ⟨a, dx, us, e, (k a _ t n).2, (k a _ t n).1, m, RpL.imp k fs _ r⟩
theorem RpL.imp (k : Imp M M' H H') : ∀ (ds : List D) (vs : List V), RpL Γ M H ds vs → RpL Γ M' H' ds vs
  | [], vs, h => by rw [RpL] at h ⊢; exact h
  | d :: ds, vs, h => by
    rw [RpL] at h ⊢
    obtain ⟨v, r, e, h1, h2⟩ := h
    exact ⟨v, r, e, Rp.imp k d v h1, RpL.imp k ds r h2⟩
end
theorem Imp.mono (e : Same H H') : Imp M M H H' := fun a o h n => ⟨n, e a o h⟩
theorem Imp.weak (h : ∀ a, M' a → M a) : Imp M M' H H := fun a o e n => ⟨fun z => n (h a z), e⟩
theorem Imp.trans {M1 : Addr → Prop} {H1 : Hp} (a : Imp M M' H H') (b : Imp M' M1 H' H1) : Imp M M1 H H1 := fun x o e n => b x o (a x o e n).2 (a x o e n).1
theorem Imp.fresh {p : Addr} (h : H p = none) : Imp M (fun a => M a ∨ a = p) H H := fun a o e n => ⟨fun z => z.elim n fun q => (by rw [q, h] at e; cases e), e⟩
theorem Rp.mono (e : Same H H') {d : D} {v : V} (h : Rp Γ M H d v) : Rp Γ M H' d v := Rp.imp (.mono e) d v h
theorem RpL.mono (e : Same H H') {ds : List D} {vs : List V} (h : RpL Γ M H ds vs) : RpL Γ M H' ds vs := RpL.imp (.mono e) ds vs h
theorem RpL.length : ∀ {ds : List D} {vs : List V}, RpL Γ M H ds vs → vs.length = ds.length
  | [], vs, h => by rw [RpL] at h; rw [h]; rfl
  | d :: ds, vs, h => by
    rw [RpL] at h
    obtain ⟨v, r, e, _, h2⟩ := h
    rw [e, List.length_cons, List.length_cons, RpL.length h2]
theorem RpL.nil : RpL Γ M H [] [] := by rw [RpL]
theorem RpL.cons {d : D} {v : V} {ds : List D} {vs : List V} (h : Rp Γ M H d v) (t : RpL Γ M H ds vs) : RpL Γ M H (d :: ds) (v :: vs) := by
  rw [RpL]
  exact ⟨v, vs, rfl, h, t⟩
theorem RpL.get : ∀ {ds : List D} {vs : List V} {i : Nat} {d : D}, RpL Γ M H ds vs → ds[i]? = some d → ∃ v, vs[i]? = some v ∧ Rp Γ M H d v
  | [], _, _, _, _, e => by simp at e
  | d :: ds, vs, 0, d', h, e => by
    rw [RpL] at h
    obtain ⟨v, r, rfl, h1, h2⟩ := h
    simp at e
    subst e
    exact ⟨v, rfl, h1⟩
  | d :: ds, vs, i + 1, d', h, e => by
    rw [RpL] at h
    obtain ⟨v, r, rfl, h1, h2⟩ := h
    obtain ⟨u, h3, h4⟩ := RpL.get (i := i) h2 (by simpa using e)
    exact ⟨u, by simpa using h3, h4⟩
theorem RpL.append : ∀ {ds es : List D} {vs us : List V}, RpL Γ M H ds vs → RpL Γ M H es us → RpL Γ M H (ds ++ es) (vs ++ us)
  | [], es, vs, us, h, k => by
    rw [RpL] at h
    rw [h]
    exact k
  | d :: ds, es, vs, us, h, k => by
    rw [RpL] at h
    obtain ⟨v, r, rfl, h1, h2⟩ := h
    exact .cons h1 (RpL.append h2 k)
theorem RpL.set : ∀ {ds : List D} {vs : List V} {d : D} {v : V} (i : Nat), RpL Γ M H ds vs → Rp Γ M H d v → RpL Γ M H (ds.set i d) (vs.set i v)
  | [], vs, d, v, i, h, k => by
    rw [RpL] at h
    rw [h]
    cases i <;> exact .nil
  | d :: ds, vs, d', v', 0, h, k => by
    rw [RpL] at h
    obtain ⟨v, r, rfl, h1, h2⟩ := h
    exact .cons k h2
  | d :: ds, vs, d', v', i + 1, h, k => by
    rw [RpL] at h
    obtain ⟨v, r, rfl, h1, h2⟩ := h
    exact .cons h1 (RpL.set i h2 k)
theorem RpL.take : ∀ {ds : List D} {vs : List V} (n : Nat), RpL Γ M H ds vs → RpL Γ M H (ds.take n) (vs.take n)
  | [], vs, n, h => by
    rw [RpL] at h
    rw [h]
    cases n <;> exact .nil
  | d :: ds, vs, 0, h => .nil
  | d :: ds, vs, n + 1, h => by
    rw [RpL] at h
    obtain ⟨v, r, rfl, h1, h2⟩ := h
    exact .cons h1 (RpL.take n h2)
theorem RpL.drop : ∀ {ds : List D} {vs : List V} (n : Nat), RpL Γ M H ds vs → RpL Γ M H (ds.drop n) (vs.drop n)
  | [], vs, n, h => by
    rw [RpL] at h
    rw [h]
    cases n <;> exact .nil
  | d :: ds, vs, 0, h => h
  | d :: ds, vs, n + 1, h => by
    rw [RpL] at h
    obtain ⟨v, r, rfl, h1, h2⟩ := h
    exact RpL.drop n h2
end
/-! ### the slots -/
inductive Cell where
  | no | val (d : D) | own (ds : List D) | ins (c : Nat) (fs : List D)
def Cell.isOwn : Cell → Bool
  | .own _ => true
  | .ins _ _ => true
  | _ => false
abbrev Env := List Cell
/-- what is fixed while a body runs: the addresses that others own, the instance that an __init__ fills -/
structure Bd where
  M : Addr → Prop
  x : Addr
  dx : Addr
def COk (Γ : Gam) (B : Bd) (M : Addr → Prop) (H : Hp) : Cell → Option (Option V) → Prop
  | .no, _ => True
  | .val d, s => ∃ v, s = some (some v) ∧ Rp Γ M H d v
  | .own ds, s => ∃ p vs, s = some (some (.ref p)) ∧ H p = some (.lst vs) ∧ RpL Γ M H ds vs
  | .ins c fs, s => ∃ us, s = some (some (.ref B.x)) ∧ H B.x = some (.ins (Γ.cls c) B.dx us) ∧ us.map (·.1) = (Γ.fld c).take us.length ∧ RpL Γ M H fs (us.map (·.2))
/-- p is a list (an instance) that the i-th slot owns -/
def OwnAt (σ : St) (ρ : Env) (i : Nat) (p : Addr) : Prop := ∃ c, ρ[i]? = some c ∧ c.isOwn = true ∧ σ[i]? = some (some (.ref p))
def Mx (M0 : Bd) (σ : St) (ρ : Env) : Addr → Prop := fun p => M0.M p ∨ ∃ i, OwnAt σ ρ i p
structure Gd (Γ : Gam) (M0 : Bd) (H0 : Hp) (σ : St) (H : Hp) (ρ : Env) : Prop where
  len : σ.length = ρ.length
  ext : Same H0 H
  m0 : ∀ a, M0.M a → H0 a ≠ none
  cel : ∀ (i : Nat) c, ρ[i]? = some c → COk Γ M0 (Mx M0 σ ρ) H c σ[i]?
  new : ∀ i p, OwnAt σ ρ i p → H0 p = none
  inj : ∀ i j p, OwnAt σ ρ i p → OwnAt σ ρ j p → i = j
section
variable {Γ : Gam} {M M' : Addr → Prop} {M0 : Bd} {H H' H0 : Hp} {σ : St} {ρ : Env} {i : Nat} {d : D} {v : V} {ds : List D}
theorem COk.imp (k : Imp M M' H H') (hk : ∀ p, s = some (some (V.ref p)) → c.isOwn = true → ∀ o, H p = some o → H' p = some o) (h : COk Γ M0 M H c s) : COk Γ M0 M' H' c s := by
  cases c with
  | no => trivial
  | val d =>
    obtain ⟨v, e, r⟩ := h
    exact ⟨v, e, Rp.imp k d v r⟩
  | own ds =>
    obtain ⟨p, vs, e, h1, r⟩ := h
    exact ⟨p, vs, e, hk p e rfl _ h1, RpL.imp k ds vs r⟩
  | ins c fs =>
    obtain ⟨us, e, h1, n, r⟩ := h
    exact ⟨us, e, hk _ e rfl _ h1, n, RpL.imp k fs _ r⟩
theorem Gd.mono (G : Gd Γ M0 H0 σ H ρ) (e : Same H H') : Gd Γ M0 H0 σ H' ρ :=
  ⟨G.len, G.ext.trans e, G.m0, fun i c q => COk.imp (.mono e) (fun p _ _ o h => e p o h) (G.cel i c q), G.new, G.inj⟩
theorem Mx.alive (G : Gd Γ M0 H0 σ H ρ) {a : Addr} (h : Mx M0 σ ρ a) : H a ≠ none := by
  rcases h with h | ⟨i, c, h1, h2, h3⟩
  · intro z
    cases q : H0 a with
    | none => exact G.m0 a h q
    | some o => rw [G.ext a o q] at z; cases z
  · have hc := G.cel i c h1
    cases c with
    | no => cases h2
    | val d => cases h2
    | own ds =>
      obtain ⟨p, vs, e, h4, _⟩ := hc
      rw [h3] at e
      cases e
      rw [h4]
      exact fun z => by cases z
    | ins c fs =>
      obtain ⟨us, e, h4, _⟩ := hc
      rw [h3] at e
      cases e
      rw [h4]
      exact fun z => by cases z
theorem Gd.val (G : Gd Γ M0 H0 σ H ρ) (h : ρ[i]? = some (.val d)) : ∃ v, σ[i]? = some (some v) ∧ Rp Γ (Mx M0 σ ρ) H d v := G.cel i _ h
theorem own_set_val {p : Addr} {j : Nat} (h : OwnAt (σ.set i (some v)) (ρ.set i (.val d)) j p) : OwnAt σ ρ j p ∧ j ≠ i := by
  obtain ⟨c, h1, h2, h3⟩ := h
  by_cases e : i = j
  · subst e
    rw [List.getElem?_set] at h1
    split at h1
    · split at h1
      · cases h1
        cases h2
      · cases h1
    · rename_i z
      exact (z rfl).elim
  · rw [List.getElem?_set_ne e] at h1 h3
    exact ⟨⟨c, h1, h2, h3⟩, fun z => e z.symm⟩
theorem Gd.set_val (G : Gd Γ M0 H0 σ H ρ) (hi : i < ρ.length) (e : Same H H') (r : Rp Γ (Mx M0 σ ρ) H' d v) : Gd Γ M0 H0 (σ.set i (some v)) H' (ρ.set i (.val d)) := by
  have sub : ∀ a, Mx M0 (σ.set i (some v)) (ρ.set i (.val d)) a → Mx M0 σ ρ a := fun a h => by
    rcases h with h | ⟨j, h⟩
    · exact .inl h
    · exact .inr ⟨j, (own_set_val h).1⟩
  have G' := G.mono e
  refine ⟨by rw [List.length_set, List.length_set, G.len], G'.ext, G.m0, fun j c q => ?_, fun j p h => G.new j p (own_set_val h).1, fun j k p h1 h2 => G.inj j k p (own_set_val h1).1 (own_set_val h2).1⟩
  by_cases z : i = j
  · subst z
    rw [List.getElem?_set_self hi] at q
    cases q
    exact ⟨v, by rw [List.getElem?_set_self (by rw [G.len]; exact hi)], Rp.imp (.weak sub) d v r⟩
  · rw [List.getElem?_set_ne z] at q ⊢
    exact COk.imp (.weak sub) (fun _ _ _ _ h => h) (G'.cel j c q)
/-- a new list is owned by a slot -/
theorem own_set_own {p q : Addr} {j : Nat} (h : OwnAt (σ.set i (some (.ref p))) (ρ.set i (.own ds)) j q) : (OwnAt σ ρ j q ∧ j ≠ i) ∨ (j = i ∧ q = p) := by
  obtain ⟨c, h1, h2, h3⟩ := h
  by_cases e : i = j
  · subst e
    refine .inr ⟨rfl, ?_⟩
    rw [List.getElem?_set] at h3
    split at h3
    · split at h3
      · cases h3
        rfl
      · cases h3
    · rename_i z
      exact (z rfl).elim
  · rw [List.getElem?_set_ne e] at h1 h3
    exact .inl ⟨⟨c, h1, h2, h3⟩, fun z => e z.symm⟩
theorem Gd.set_own {p : Addr} {vs : List V} (G : Gd Γ M0 H0 σ H ρ) (hi : i < ρ.length) (e : Same H H') (hp : H p = none) (hv : H' p = some (.lst vs)) (r : RpL Γ (fun a => Mx M0 σ ρ a ∨ a = p) H' ds vs) :
    Gd Γ M0 H0 (σ.set i (some (.ref p))) H' (ρ.set i (.own ds)) := by
  have sub : ∀ a, Mx M0 (σ.set i (some (.ref p))) (ρ.set i (.own ds)) a → Mx M0 σ ρ a ∨ a = p := fun a h => by
    rcases h with h | ⟨j, h⟩
    · exact .inl (.inl h)
    · rcases own_set_own h with h | h
      · exact .inl (.inr ⟨j, h.1⟩)
      · exact .inr h.2
  have imp : Imp (Mx M0 σ ρ) (Mx M0 (σ.set i (some (.ref p))) (ρ.set i (.own ds))) H H' := fun a o h n => ⟨fun z => (sub a z).elim n fun q => (by rw [q, hp] at h; cases h), e a o h⟩
  have hp0 : H0 p = none := by
    cases q : H0 p with
    | none => rfl
    | some o => rw [G.ext p o q] at hp; cases hp
  have notOld : ∀ j, ¬ OwnAt σ ρ j p := fun j h => Mx.alive G (.inr ⟨j, h⟩) hp
  refine ⟨by rw [List.length_set, List.length_set, G.len], G.ext.trans e, G.m0, fun j c q => ?_, fun j q h => ?_, fun j k q h1 h2 => ?_⟩
  · by_cases z : i = j
    · subst z
      rw [List.getElem?_set_self hi] at q
      cases q
      exact ⟨p, vs, by rw [List.getElem?_set_self (by rw [G.len]; exact hi)], hv, RpL.imp (.weak sub) ds vs r⟩
    · rw [List.getElem?_set_ne z] at q ⊢
      exact COk.imp imp (fun p _ _ o h => e p o h) (G.cel j c q)
  · rcases own_set_own h with h | h
    · exact G.new j q h.1
    · rw [h.2]; exact hp0
  · rcases own_set_own h1 with h1 | h1
    · rcases own_set_own h2 with h2 | h2
      · exact G.inj j k q h1.1 h2.1
      · rw [h2.2] at h1
        exact (notOld j h1.1).elim
    · rcases own_set_own h2 with h2 | h2
      · rw [h1.2] at h2
        exact (notOld k h2.1).elim
      · rw [h1.1, h2.1]
/-- the list that a slot owns is changed -/
theorem Gd.mut {p : Addr} {es : List D} {vs : List V} (G : Gd Γ M0 H0 σ H ρ) (h : ρ[i]? = some (.own ds)) (hs : σ[i]? = some (some (.ref p))) (r : RpL Γ (Mx M0 σ ρ) H es vs) :
    Gd Γ M0 H0 σ (upd H p (.lst vs)) (ρ.set i (.own es)) := by
  have hi : i < ρ.length := (List.getElem?_eq_some_iff.mp h).1
  have same : ∀ j q, OwnAt σ (ρ.set i (.own es)) j q ↔ OwnAt σ ρ j q := fun j q => by
    by_cases z : i = j
    · subst z
      constructor
      · rintro ⟨c, h1, h2, h3⟩
        exact ⟨_, h, rfl, h3⟩
      · rintro ⟨c, h1, h2, h3⟩
        exact ⟨_, List.getElem?_set_self hi, rfl, h3⟩
    · unfold OwnAt
      rw [List.getElem?_set_ne z]
  have own : OwnAt σ ρ i p := ⟨_, h, rfl, hs⟩
  have sub : ∀ a, Mx M0 σ (ρ.set i (.own es)) a → Mx M0 σ ρ a := fun a h => by
    rcases h with h | ⟨j, h⟩
    · exact .inl h
    · exact .inr ⟨j, (same j a).mp h⟩
  have imp : Imp (Mx M0 σ ρ) (Mx M0 σ (ρ.set i (.own es))) H (upd H p (.lst vs)) := fun a o e n => ⟨fun z => n (sub a z), by
    rw [upd_ne (fun q => n (by rw [q]; exact .inr ⟨i, own⟩))]
    exact e⟩
  refine ⟨by rw [List.length_set, G.len], fun a o e => ?_, G.m0, fun j c q => ?_, fun j q h => G.new j q ((same j q).mp h), fun j k q h1 h2 => G.inj j k q ((same j q).mp h1) ((same k q).mp h2)⟩
  · rw [upd_ne (fun q => by rw [q, G.new i p own] at e; cases e)]
    exact G.ext a o e
  · by_cases z : i = j
    · subst z
      rw [List.getElem?_set_self hi] at q
      cases q
      exact ⟨p, vs, hs, upd_same, RpL.imp imp es vs r⟩
    · rw [List.getElem?_set_ne z] at q
      refine COk.imp imp (fun p' e1 e2 o e3 => ?_) (G.cel j c q)
      rw [upd_ne (fun e4 => z (G.inj i j p own ⟨c, q, e2, by rw [e1, e4]⟩))]
      exact e3
end
set_option Elab.async false
set_option linter.all false
set_option maxRecDepth 100000
set_option maxHeartbeats 4000000
/-! ### judgements: a piece of syntax and the pure function of the slots that it computes -/
open PySem L2
structure Sit (Γ : Gam) (k : Nat) (X : Cx) (W : WX) : Prop where
  P : X.prog = Γ.P
  w : X.w = Γ.w
  K : X.K = Γ.K
  mg : X.mg = Γ.mg
  base : X.base = Γ.base
  room : 0 < k → Room k X.A
  calm : 0 < k → X.calm = true
  takes : Takes X W
  pas : PassesOwn (model X.prog X.w) X.A X.env X.xe
  nd : X.N.Nodup
  seer : 0 < k → ∀ h : Heap, X.A.frames = some X.stack → h.NoSeer → SeerAt (model X.prog X.w) X.A h
  ns : X.base.NoSeer
/-- an exception of the class x.c with the fields x.fs -/
def RpX (Γ : Gam) (x : Exn) (cv : Value) (dd : Option Addr) (H : Hp) : Prop :=
  cv = .ref (Γ.cls x.c) ∧ match x.fs with
    | [] => dd = none
    | fs => ∃ a us, dd = some a ∧ H a = some (.xd us) ∧ us.map (·.1) = (Γ.fld x.c).take us.length ∧ RpL Γ (fun _ => False) H fs (us.map (·.2))
theorem RpX.mono {Γ : Gam} {x : Exn} {cv : Value} {dd : Option Addr} {H H' : Hp} (e : Same H H') (h : RpX Γ x cv dd H) : RpX Γ x cv dd H' := by
  obtain ⟨h1, h2⟩ := h
  refine ⟨h1, ?_⟩
  cases q : x.fs with
  | nil => rw [q] at h2; exact h2
  | cons f fs =>
    rw [q] at h2
    obtain ⟨a, us, h3, h4, h5, h6⟩ := h2
    exact ⟨a, us, h3, e a _ h4, h5, h6.mono e⟩
def PostX (Γ : Gam) (W : WX) (σ : St) (H : Hp) (x : Exn) : Prop := ∀ cv dd H', Same H H' → RpX Γ x cv dd H' → W cv dd σ H'
theorem PostX.mono {Γ : Gam} {W : WX} {σ : St} {H H' : Hp} {x : Exn} (h : PostX Γ W σ H x) (e : Same H H') : PostX Γ W σ H' x := fun cv dd H1 e1 r => h cv dd H1 (e.trans e1) r
def Post {α : Type} (Γ : Gam) (W : WX) (σ : St) (H : Hp) (r : Res α) (Q : α → Prop) : Prop := match r with
  | .stuck => False
  | .ok a => Q a
  | .exc x => PostX Γ W σ H x
theorem Post.bind {α β : Type} {Γ : Gam} {W : WX} {σ : St} {H : Hp} {r : Res α} {f : α → Res β} {Q : β → Prop} (h : Post Γ W σ H (r.bind f) Q) : Post Γ W σ H r fun a => Post Γ W σ H (f a) Q := by
  cases r with
  | stuck => exact h
  | ok a => exact h
  | exc x => exact h
theorem Post.imp {α : Type} {Γ : Gam} {W : WX} {σ : St} {H H' : Hp} {r : Res α} {Q Q' : α → Prop} (h : Post Γ W σ H r Q) (e : Same H H') (k : ∀ a, Q a → Q' a) : Post Γ W σ H' r Q' := by
  cases r with
  | stuck => exact h
  | ok a => exact k a h
  | exc x => exact PostX.mono h e
/-- an expression gives a datum -/
def WantE (Γ : Gam) (M : Addr → Prop) (H : Hp) (Q : VK) (d : D) : Prop := ∀ v H', Same H H' → Rp Γ M H' d v → Q v H'
def WantB (H : Hp) (Q : Bool → Hp → Prop) (b : Bool) : Prop := ∀ H', Same H H' → Q b H'
def WantA (Γ : Gam) (M : Addr → Prop) (H : Hp) (Q : List V → Hp → Prop) (ds : List D) : Prop := ∀ vs H', Same H H' → RpL Γ M H' ds vs → Q vs H'
/-- a new list -/
def WantF (Γ : Gam) (M : Addr → Prop) (H : Hp) (Q : VK) (ds : List D) : Prop := ∀ p vs H', H p = none → Same H H' → H' p = some (.lst vs) → RpL Γ (fun a => M a ∨ a = p) H' ds vs → Q (.ref p) H'
def DE (Γ : Gam) (k : Nat) (X : Cx) (W : WX) (e : Expr) (f : Env → Res D) : Prop := Sit Γ k X W → ∃ te : TE, PE X e te ∧
  ∀ M0 H0 σ H ρ Q, Gd Γ M0 H0 σ H ρ → Post Γ W σ H (f ρ) (WantE Γ (Mx M0 σ ρ) H Q) → te σ H Q
def DF (Γ : Gam) (k : Nat) (X : Cx) (W : WX) (e : Expr) (f : Env → Res (List D)) : Prop := Sit Γ k X W → ∃ te : TE, PE X e te ∧
  ∀ M0 H0 σ H ρ Q, Gd Γ M0 H0 σ H ρ → Post Γ W σ H (f ρ) (WantF Γ (Mx M0 σ ρ) H Q) → te σ H Q
def DT (Γ : Gam) (k : Nat) (X : Cx) (W : WX) (e : Expr) (f : Env → Res Bool) : Prop := Sit Γ k X W → ∃ tt : TT, PT X e tt ∧
  ∀ M0 H0 σ H ρ Q, Gd Γ M0 H0 σ H ρ → Post Γ W σ H (f ρ) (WantB H Q) → tt σ H Q
def DA (Γ : Gam) (k : Nat) (X : Cx) (W : WX) (es : List Expr) (f : Env → Res (List D)) : Prop := Sit Γ k X W → ∃ ta : TA, PA X es ta ∧
  ∀ M0 H0 σ H ρ Q, Gd Γ M0 H0 σ H ρ → Post Γ W σ H (f ρ) (WantA Γ (Mx M0 σ ρ) H Q) → ta σ H Q
inductive Out where
  | stuck | next (ρ : Env) | ret (d : D) | retF (ds : List D) | exc (x : Exn) (ρ : Env) | brk (ρ : Env) | cnt (ρ : Env)
def PostS (Γ : Gam) (M0 : Bd) (H0 : Hp) (W : WX) (D : Ends) : Out → Prop
  | .stuck => False
  | .next ρ => ∀ σ H, Gd Γ M0 H0 σ H ρ → D.nx σ H
  | .ret d => ∀ v H, Same H0 H → Rp Γ M0.M H d v → D.rt v H
  | .retF ds => ∀ p vs H, H0 p = none → Same H0 H → H p = some (.lst vs) → RpL Γ (fun a => M0.M a ∨ a = p) H ds vs → D.rt (.ref p) H
  | .exc x ρ => ∀ cv dd σ H, Gd Γ M0 H0 σ H ρ → RpX Γ x cv dd H → W cv dd σ H
  | .brk ρ => ∀ σ H, Gd Γ M0 H0 σ H ρ → D.bk σ H
  | .cnt ρ => ∀ σ H, Gd Γ M0 H0 σ H ρ → D.ct σ H
def DS (Γ : Gam) (k : Nat) (X : Cx) (W : WX) (s : Stmt) (f : Env → Out) : Prop := Sit Γ k X W → ∃ ts : TS, PS X s ts ∧
  ∀ M0 H0 σ H ρ D, Gd Γ M0 H0 σ H ρ → PostS Γ M0 H0 W D (f ρ) → ts D σ H
def DSs (Γ : Gam) (k : Nat) (X : Cx) (W : WX) (s : List Stmt) (f : Env → Out) : Prop := Sit Γ k X W → ∃ ts : TS, PSs X s ts ∧
  ∀ M0 H0 σ H ρ D, Gd Γ M0 H0 σ H ρ → PostS Γ M0 H0 W D (f ρ) → ts D σ H

/-! ### the pure side -/
namespace E
def var (i : Nat) : Env → Res D := fun ρ => match ρ[i]? with
  | some (.val d) => .ok d
  | _ => .stuck
def c (d : D) : Env → Res D := fun _ => .ok d
def op2 (g : D → D → Res D) (f h : Env → Res D) : Env → Res D := fun ρ => (f ρ).bind fun x => (h ρ).bind fun y => g x y
def op1 (g : D → Res D) (f : Env → Res D) : Env → Res D := fun ρ => (f ρ).bind g
def nil : Env → Res (List D) := fun _ => .ok []
def cons (f : Env → Res D) (g : Env → Res (List D)) : Env → Res (List D) := fun ρ => (f ρ).bind fun x => (g ρ).bind fun xs => .ok (x :: xs)
def app (g : List D → Res D) (f : Env → Res (List D)) : Env → Res D := fun ρ => (f ρ).bind g
def appF (g : List D → Res (List D)) (f : Env → Res (List D)) : Env → Res (List D) := fun ρ => (f ρ).bind g
def lst (f : Env → Res (List D)) : Env → Res D := fun ρ => (f ρ).bind fun ds => .ok (.lst ds)
end E
namespace T
def tst (f : Env → Res D) : Env → Res Bool := fun ρ => (f ρ).bind fun x => match x with
  | .bl b => .ok b
  | _ => .stuck
def and (f g : Env → Res Bool) : Env → Res Bool := fun ρ => (f ρ).bind fun b => if b = true then g ρ else .ok false
def or (f g : Env → Res Bool) : Env → Res Bool := fun ρ => (f ρ).bind fun b => if b = true then .ok true else g ρ
def not (f : Env → Res Bool) : Env → Res Bool := fun ρ => (f ρ).bind fun b => .ok (!b)
end T
namespace S
def skip : Env → Out := fun ρ => .next ρ
def brk : Env → Out := fun ρ => .brk ρ
def cnt : Env → Out := fun ρ => .cnt ρ
def lift {α : Type} (r : Res α) (ρ : Env) (k : α → Out) : Out := match r with
  | .stuck => .stuck
  | .ok a => k a
  | .exc x => .exc x ρ
def seq (f g : Env → Out) : Env → Out := fun ρ => match f ρ with
  | .next ρ' => g ρ'
  | o => o
def set (i : Nat) (f : Env → Res D) : Env → Out := fun ρ => lift (f ρ) ρ fun d => if i < ρ.length then .next (List.set ρ i (.val d)) else .stuck
def setF (i : Nat) (f : Env → Res (List D)) : Env → Out := fun ρ => lift (f ρ) ρ fun ds => if i < ρ.length then .next (List.set ρ i (.own ds)) else .stuck
def expr (f : Env → Res D) : Env → Out := fun ρ => lift (f ρ) ρ fun _ => .next ρ
def ret (f : Env → Res D) : Env → Out := fun ρ => lift (f ρ) ρ fun d => .ret d
def retF (f : Env → Res (List D)) : Env → Out := fun ρ => lift (f ρ) ρ fun d => .retF d
def retN : Env → Out := fun _ => .ret .non
def retO (i : Nat) : Env → Out := fun ρ => match ρ[i]? with
  | some (.own ds) => .retF ds
  | _ => .stuck
def ite (c : Env → Res Bool) (f g : Env → Out) : Env → Out := fun ρ => lift (c ρ) ρ fun b => if b = true then f ρ else g ρ
/-- while, at most n turns -/
def whileN (c : Env → Res Bool) (b : Env → Out) : Nat → Env → Out
  | 0, _ => .stuck
  | n + 1, ρ => lift (c ρ) ρ fun t => if t = true then (match b ρ with
    | .next ρ' => whileN c b n ρ'
    | .cnt ρ' => whileN c b n ρ'
    | .brk ρ' => .next ρ'
    | o => o) else .next ρ
def whil (n : Env → Nat) (c : Env → Res Bool) (b : Env → Out) : Env → Out := fun ρ => whileN c b (n ρ) ρ
/-- for, over written data; g stores an item -/
def forL (g : D → Env → Option Env) (b : Env → Out) : List D → Env → Out
  | [], ρ => .next ρ
  | d :: ds, ρ => match g d ρ with
    | none => .stuck
    | some ρ1 => match b ρ1 with
      | .next ρ' => forL g b ds ρ'
      | .cnt ρ' => forL g b ds ρ'
      | .brk ρ' => .next ρ'
      | o => o
def forE (it : Env → Res (List D)) (g : D → Env → Option Env) (b : Env → Out) : Env → Out := fun ρ => lift (it ρ) ρ fun ds => forL g b ds ρ
def tgt (i : Nat) : D → Env → Option Env := fun d ρ => if i < ρ.length then some (List.set ρ i (.val d)) else none
def gnil : List D → Env → Option Env := fun ds ρ => match ds with
  | [] => some ρ
  | _ => none
def gcons (f : D → Env → Option Env) (g : List D → Env → Option Env) : List D → Env → Option Env := fun ds ρ => match ds with
  | d :: r => (f d ρ).bind (g r)
  | _ => none
def gtup (n : Nat) (f : List D → Env → Option Env) : D → Env → Option Env := fun d ρ => match d with
  | .tup ds => if ds.length = n then f ds ρ else none
  | _ => none
/-- x, y = a tuple -/
def asg (g : D → Env → Option Env) (f : Env → Res D) : Env → Out := fun ρ => lift (f ρ) ρ fun d => match g d ρ with
  | some ρ' => .next ρ'
  | none => .stuck
end S

/-! ### basic rules -/
section
variable {Γ : Gam} {k : Nat} {X : Cx} {W : WX}
theorem tr {a b : Hp} (e : Same a b) {c : Hp} (f : Same b c) : Same a c := Same.trans e f
theorem de_var (i : Nat) {x : Str} {pos : Pos} (hN : X.N[i]? = some x := by rfl) (hv : Vis X.env.scope x := by first | exact Or.inl rfl | exact Or.inr (Or.inl rfl) | exact Or.inr (Or.inr rfl)) (hd : (x == ("__debug__" : Str)) = false := by decide)
    (hcd : (x == ("__classdict__" : Str)) = false := by decide) : DE Γ k X W (.Name x pos) (E.var i) := fun S => by
  refine ⟨_, pe_var hN hv hd hcd, fun M0 H0 σ H ρ Q G h => ?_⟩
  unfold E.var at h
  cases q : ρ[i]? with
  | none => rw [q] at h; exact h.elim
  | some c =>
    rw [q] at h
    cases c with
    | val d =>
      obtain ⟨v, e, r⟩ := G.val q
      exact ⟨v, e, h v H (Same.refl H) r⟩
    | no => exact h.elim
    | own ds => exact h.elim
    | ins c fs => exact h.elim
theorem de_int {i : Int} {j : Nat} {pos : Pos} : DE Γ k X W (.Constant (.int i) j pos) (E.c (.int i)) := fun S =>
  ⟨_, pe_int, fun M0 H0 σ H ρ Q G h => h _ H (Same.refl H) (by rw [Rp])⟩
theorem de_str {x : Str} {j : Nat} {pos : Pos} : DE Γ k X W (.Constant (.str x) j pos) (E.c (.str x)) := fun S =>
  ⟨_, pe_str, fun M0 H0 σ H ρ Q G h => h _ H (Same.refl H) (by rw [Rp])⟩
theorem de_bl {b : Bool} {j : Nat} {pos : Pos} : DE Γ k X W (.Constant (.bool b) j pos) (E.c (.bl b)) := fun S =>
  ⟨_, pe_bl, fun M0 H0 σ H ρ Q G h => h _ H (Same.refl H) (by rw [Rp])⟩
theorem de_non {j : Nat} {pos : Pos} : DE Γ k X W (.Constant .none j pos) (E.c .non) := fun S =>
  ⟨_, pe_non, fun M0 H0 σ H ρ Q G h => h _ H (Same.refl H) (by rw [Rp])⟩
theorem de_lst {e : Expr} {f : Env → Res (List D)} (h : DF Γ k X W e f) : DE Γ k X W e (E.lst f) := fun S => by
  obtain ⟨te, pe, r⟩ := h S
  refine ⟨te, pe, fun M0 H0 σ H ρ Q G h => r M0 H0 σ H ρ Q G ?_⟩
  refine (Post.bind h).imp (Same.refl H) fun ds q p vs H' h1 h2 h3 h4 => q _ H' h2 ?_
  rw [Rp]
  exact ⟨p, vs, rfl, .inl ⟨.inl h3, fun z => Mx.alive G z h1⟩, RpL.imp (.weak fun a z => .inl z) ds vs h4⟩
/-- a two-place operation by values -/
def OpD (Γ : Gam) (k : Nat) (X : Cx) (W : WX) (f : Value → Value → Sem Value) (g : D → D → Res D) : Prop := Sit Γ k X W → ∃ r : R2, OpR X f r ∧
  ∀ (M : Addr → Prop) (H : Hp) (x y : V) (a b : D) (Q : VK), (∀ a, M a → H a ≠ none) → Rp Γ M H a x → Rp Γ M H b y → Post Γ (fun _ _ _ _ => False) [] H (g a b) (WantE Γ M H Q) → r x y H Q
theorem no_exc {α : Type} {Γ : Gam} {W W' : WX} {σ σ' : St} {H : Hp} {r : Res α} {Q : α → Prop} (h : Post Γ W σ H r Q) (n : ∀ x, r ≠ .exc x) : Post Γ W' σ' H r Q := by
  cases r with
  | stuck => exact h
  | ok a => exact h
  | exc x => exact (n x rfl).elim
theorem WantE.back {Γ : Gam} {M : Addr → Prop} {H H' : Hp} {Q : VK} {d : D} (e : Same H H') (h : WantE Γ M H Q d) : WantE Γ M H' Q d := fun v H1 e1 r => h v H1 (e.trans e1) r
/-- two operands from the left, then a rule by values -/
theorem two {f h : Env → Res D} {g : D → D → Res D} {ta tb : TE} {r : R2} {M0 : Bd} {H0 : Hp} {σ : St} {H : Hp} {ρ : Env} {Q : VK}
    (ra : ∀ M0 H0 σ H ρ Q, Gd Γ M0 H0 σ H ρ → Post Γ W σ H (f ρ) (WantE Γ (Mx M0 σ ρ) H Q) → ta σ H Q)
    (rb : ∀ M0 H0 σ H ρ Q, Gd Γ M0 H0 σ H ρ → Post Γ W σ H (h ρ) (WantE Γ (Mx M0 σ ρ) H Q) → tb σ H Q)
    (rr : ∀ (M : Addr → Prop) (H : Hp) (x y : V) (a b : D) (Q : VK), (∀ a, M a → H a ≠ none) → Rp Γ M H a x → Rp Γ M H b y → Post Γ W σ H (g a b) (WantE Γ M H Q) → r x y H Q)
    (G : Gd Γ M0 H0 σ H ρ) (q : Post Γ W σ H (E.op2 g f h ρ) (WantE Γ (Mx M0 σ ρ) H Q)) : tOp r ta tb σ H Q := by
  refine ra M0 H0 σ H ρ _ G ((Post.bind q).imp (Same.refl H) fun d q1 v H1 e1 r1 => ?_)
  have G1 := G.mono e1
  refine rb M0 H0 σ H1 ρ _ G1 ((Post.bind q1).imp e1 fun d2 q2 v2 H2 e2 r2 => ?_)
  refine rr (Mx M0 σ ρ) H2 v v2 d d2 Q (fun a z => Mx.alive (G1.mono e2) z) (r1.mono e2) r2 (q2.imp (e1.trans e2) fun d3 q3 => q3.back (e1.trans e2))
theorem de_op2 {op : Operator} {a b : Expr} {f h : Env → Res D} {g : D → D → Res D} {pos : Pos} (o : OpD Γ k X W (binaryOp op) g) (n : ∀ x y z, g x y ≠ .exc z) (ha : DE Γ k X W a f) (hb : DE Γ k X W b h) : DE Γ k X W (.BinOp a op b pos) (E.op2 g f h) := fun S => by
  obtain ⟨ta, pa, ra⟩ := ha S
  obtain ⟨tb, pb, rb⟩ := hb S
  obtain ⟨r, or, rr⟩ := o S
  exact ⟨_, pe_op or pa pb, fun M0 H0 σ H ρ Q G q => two ra rb (fun M H x y a b Q m r1 r2 q => rr M H x y a b Q m r1 r2 (no_exc q (n a b))) G q⟩
theorem de_cmp {op : CmpOp} {a b : Expr} {f h : Env → Res D} {g : D → D → Res D} {pos : Pos} (o : OpD Γ k X W (compareOp op) g) (n : ∀ x y z, g x y ≠ .exc z) (ha : DE Γ k X W a f) (hb : DE Γ k X W b h) (hm : behindInMarks op b = false) :
    DE Γ k X W (.Compare a [op] [b] pos) (E.op2 g f h) := fun S => by
  obtain ⟨ta, pa, ra⟩ := ha S
  obtain ⟨tb, pb, rb⟩ := hb S
  obtain ⟨r, or, rr⟩ := o S
  exact ⟨_, pe_cmpR or pa pb hm, fun M0 H0 σ H ρ Q G q => two ra rb (fun M H x y a b Q m r1 r2 q => rr M H x y a b Q m r1 r2 (no_exc q (n a b))) G q⟩
theorem dt_cmp {op : CmpOp} {a b : Expr} {f h : Env → Res D} {g : D → D → Res D} {pos : Pos} (o : OpD Γ k X W (compareOp op) g) (n : ∀ x y z, g x y ≠ .exc z) (ha : DE Γ k X W a f) (hb : DE Γ k X W b h) (hm : behindInMarks op b = false) :
    DT Γ k X W (.Compare a [op] [b] pos) (T.tst (E.op2 g f h)) := fun S => by
  obtain ⟨ta, pa, ra⟩ := ha S
  obtain ⟨tb, pb, rb⟩ := hb S
  obtain ⟨r, or, rr⟩ := o S
  refine ⟨_, pt_cmpR or pa pb hm, fun M0 H0 σ H ρ Q G q => ?_⟩
  refine two ra rb (fun M H x y a b Q m r1 r2 q => rr M H x y a b Q m r1 r2 (no_exc q (n a b))) G ((Post.bind q).imp (Same.refl H) fun d q1 v H1 e1 r1 => ?_)
  cases d with
  | bl b =>
    rw [Rp] at r1
    exact ⟨b, r1, q1 H1 e1⟩
  | _ => exact q1.elim
/-- an expression as a test -/
theorem dt_val {e : Expr} {f : Env → Res D} (h : DE Γ k X W e f) (he : ∀ whole, isTrue e X.env whole = (do let v ← whole; standAt e.pos; holding [v] (truthy v)) := by intro _; rfl) : DT Γ k X W e (T.tst f) := fun S => by
  obtain ⟨te, pe, r⟩ := h S
  refine ⟨_, pt_val pe he, fun M0 H0 σ H ρ Q G q => ?_⟩
  refine r M0 H0 σ H ρ _ G ((Post.bind q).imp (Same.refl H) fun d q1 v H1 e1 r1 => ?_)
  cases d with
  | bl b =>
    rw [Rp] at r1
    exact ⟨b, r1, q1 H1 e1⟩
  | _ => exact q1.elim
/-! ### ints -/
end
def intD (g : Int → Int → Res D) : D → D → Res D
  | .int i, .int j => g i j
  | _, _ => .stuck
instance (i j : Int) : Decidable (PySem.IntMulOk i j) := by unfold PySem.IntMulOk; infer_instance
def addI : D → D → Res D := intD fun i j => .ok (.int (i + j))
def subI : D → D → Res D := intD fun i j => .ok (.int (i - j))
def mulI : D → D → Res D := intD fun i j => if PySem.IntMulOk i j then .ok (.int (i * j)) else .stuck
def fdivI : D → D → Res D := intD fun i j => if j ≠ 0 then .ok (.int (i.fdiv j)) else .stuck
def modI : D → D → Res D := intD fun i j => if j ≠ 0 then .ok (.int (i.fmod j)) else .stuck
instance (i j : Int) : Decidable (CPow i j) := by unfold CPow; infer_instance
def powI : D → D → Res D := intD fun i j => if CPow i j then .ok (.int (i ^ j.toNat)) else .stuck
def ltI : D → D → Res D := intD fun i j => .ok (.bl (decide (i < j)))
def leI : D → D → Res D := intD fun i j => .ok (.bl (decide (i ≤ j)))
def gtI : D → D → Res D := intD fun i j => .ok (.bl (decide (j < i)))
def geI : D → D → Res D := intD fun i j => .ok (.bl (decide (j ≤ i)))
theorem intD_exc {g : Int → Int → Res D} (h : ∀ i j z, g i j ≠ .exc z) (x y : D) (z : Exn) : intD g x y ≠ .exc z := by
  cases x <;> cases y <;> first | exact h _ _ z | exact fun q => nomatch q
theorem addI_n (x y z) : addI x y ≠ .exc z := intD_exc (fun i j z q => by cases q) x y z
theorem subI_n (x y z) : subI x y ≠ .exc z := intD_exc (fun i j z q => by cases q) x y z
theorem mulI_n (x y z) : mulI x y ≠ .exc z := intD_exc (fun i j z q => by split at q <;> cases q) x y z
theorem fdivI_n (x y z) : fdivI x y ≠ .exc z := intD_exc (fun i j z q => by split at q <;> cases q) x y z
theorem modI_n (x y z) : modI x y ≠ .exc z := intD_exc (fun i j z q => by split at q <;> cases q) x y z
theorem powI_n (x y z) : powI x y ≠ .exc z := intD_exc (fun i j z q => by split at q <;> cases q) x y z
theorem ltI_n (x y z) : ltI x y ≠ .exc z := intD_exc (fun i j z q => by cases q) x y z
theorem leI_n (x y z) : leI x y ≠ .exc z := intD_exc (fun i j z q => by cases q) x y z
theorem gtI_n (x y z) : gtI x y ≠ .exc z := intD_exc (fun i j z q => by cases q) x y z
theorem geI_n (x y z) : geI x y ≠ .exc z := intD_exc (fun i j z q => by cases q) x y z
section
variable {Γ : Gam} {k : Nat} {X : Cx} {W : WX}
theorem opd_int {f : Value → Value → Sem Value} {g : Int → Int → Res D} {r : R2} (o : Sit Γ k X W → OpR X f r)
    (h : ∀ i j H Q, Post Γ (fun _ _ _ _ => False) [] H (g i j) (fun d => ∀ v, (∀ M, Rp Γ M H d v) → Q v H) → r (.int i) (.int j) H Q) (n : ∀ i j z, g i j ≠ .exc z) (flat : ∀ i j d, g i j = .ok d → ∃ v, ∀ M H, Rp Γ M H d v) : OpD Γ k X W f (intD g) := fun S => by
  refine ⟨r, o S, fun M H x y a b Q m r1 r2 q => ?_⟩
  cases a <;> cases b <;> first | exact q.elim | skip
  rw [Rp] at r1 r2
  rw [r1, r2]
  exact h _ _ _ _ (q.imp (Same.refl H) fun d w v z => w v H (Same.refl H) (z M))
theorem od_add : OpD Γ k X W (binaryOp .Add) addI := opd_int (fun _ => op_add) (fun i j H Q h => ⟨i, j, rfl, rfl, h _ fun M => by rw [Rp]⟩) (fun i j z q => by cases q) (fun i j d q => by cases q; exact ⟨_, fun M H => by rw [Rp]⟩)
theorem od_sub : OpD Γ k X W (binaryOp .Sub) subI := opd_int (fun _ => op_sub) (fun i j H Q h => ⟨i, j, rfl, rfl, h _ fun M => by rw [Rp]⟩) (fun i j z q => by cases q) (fun i j d q => by cases q; exact ⟨_, fun M H => by rw [Rp]⟩)
theorem op_mulF : OpR X (binaryOp .Mult) (rI PySem.IntMulOk fun i j => .int (i * j)) := opI fun _ _ _ _ _ _ _ hc q => PyProof.Rows.mul_int q hc
theorem flat_if {c : Prop} [Decidable c] {d0 d : D} (h : (if c then Res.ok d0 else .stuck) = .ok d) (v : V) (r : ∀ M H, Rp Γ M H d0 v) : ∃ v, ∀ M H, Rp Γ M H d v := by
  split at h
  · cases h
    exact ⟨v, r⟩
  · cases h
theorem post_if {c : Prop} [Decidable c] {W : WX} {σ : St} {H : Hp} {d0 : D} {Q : D → Prop} (h : Post Γ W σ H (if c then Res.ok d0 else .stuck) Q) : c ∧ Q d0 := by
  split at h
  · rename_i hc
    exact ⟨hc, h⟩
  · exact h.elim
theorem od_mul : OpD Γ k X W (binaryOp .Mult) mulI := opd_int (fun _ => op_mulF) (fun i j H Q h => ⟨i, j, rfl, rfl, (post_if h).1, (post_if h).2 _ fun M => by rw [Rp]⟩) (fun i j z q => by split at q <;> cases q)
  (fun i j d q => flat_if q (.int (i * j)) fun M H => by rw [Rp])
theorem od_mod : OpD Γ k X W (binaryOp .Mod) modI := opd_int (fun _ => op_modN) (fun i j H Q h => ⟨i, j, rfl, rfl, (post_if h).1, (post_if h).2 _ fun M => by rw [Rp]⟩) (fun i j z q => by split at q <;> cases q)
  (fun i j d q => flat_if q (.int (i.fmod j)) fun M H => by rw [Rp])
theorem od_pow : OpD Γ k X W (binaryOp .Pow) powI := opd_int (fun _ => op_pow) (fun i j H Q h => ⟨i, j, rfl, rfl, (post_if h).1, (post_if h).2 _ fun M => by rw [Rp]⟩) (fun i j z q => by split at q <;> cases q)
  (fun i j d q => flat_if q (.int (i ^ j.toNat)) fun M H => by rw [Rp])
theorem op_fdivP (S : Sit Γ (k + 33) X W) : OpR X (binaryOp .FloorDiv) (rI (fun _ j => j ≠ 0) fun i j => .int (i.fdiv j)) := by
  intro pins s σ H x y v u Q I rx ry h
  obtain ⟨i, j, rfl, rfl, hc, q⟩ := h
  obtain ⟨t, rfl⟩ := rx
  obtain ⟨t', rfl⟩ := ry
  refine PyProof.Rows.floordiv_int hc ⟨.int _, H, I.tok _, ⟨_, rfl⟩, q⟩ (.inr (PySem.PylongRoom.of I.nolimit ?_ (S.seer (by omega) _ I.ok.frames (S.ns.keeps I.bk))))
  have d := (S.room (by omega)).dp
  show X.A.depth + 100 < recursionLimit
  omega
theorem od_fdiv : OpD Γ (k + 33) X W (binaryOp .FloorDiv) fdivI := opd_int (fun S => op_fdivP S) (fun i j H Q h => ⟨i, j, rfl, rfl, (post_if h).1, (post_if h).2 _ fun M => by rw [Rp]⟩) (fun i j z q => by split at q <;> cases q)
  (fun i j d q => flat_if q (.int (i.fdiv j)) fun M H => by rw [Rp])
theorem od_lt : OpD Γ k X W (compareOp .Lt) ltI := opd_int (fun _ => op_lt) (fun i j H Q h => ⟨i, j, rfl, rfl, h _ fun M => by rw [Rp]⟩) (fun i j z q => by cases q) (fun i j d q => by cases q; exact ⟨_, fun M H => by rw [Rp]⟩)
theorem od_le : OpD Γ k X W (compareOp .LtE) leI := opd_int (fun _ => op_le) (fun i j H Q h => ⟨i, j, rfl, rfl, h _ fun M => by rw [Rp]⟩) (fun i j z q => by cases q) (fun i j d q => by cases q; exact ⟨_, fun M H => by rw [Rp]⟩)
theorem od_gt : OpD Γ k X W (compareOp .Gt) gtI := opd_int (fun _ => op_gt) (fun i j H Q h => ⟨i, j, rfl, rfl, h _ fun M => by rw [Rp]⟩) (fun i j z q => by cases q) (fun i j d q => by cases q; exact ⟨_, fun M H => by rw [Rp]⟩)
theorem od_ge : OpD Γ k X W (compareOp .GtE) geI := opd_int (fun _ => op_ge) (fun i j H Q h => ⟨i, j, rfl, rfl, h _ fun M => by rw [Rp]⟩) (fun i j z q => by cases q) (fun i j d q => by cases q; exact ⟨_, fun M H => by rw [Rp]⟩)
end
set_option Elab.async false
set_option linter.all false
set_option maxRecDepth 100000
set_option maxHeartbeats 4000000
open PySem L2
/-! ### defs: what a def hands back is its pure function of the data -/
def spD (Γ : Gam) (n : Nat) (g : List D → Res D) : Sp := fun vs H Q E => ∃ (M : Addr → Prop) (ds : List D), ds.length = n ∧ (∀ a, M a → H a ≠ none) ∧ RpL Γ M H ds vs ∧
  match g ds with
  | .stuck => False
  | .ok d => WantE Γ M H Q d
  | .exc x => ∀ cv dd H', Same H H' → RpX Γ x cv dd H' → E cv dd H'
def spF (Γ : Gam) (n : Nat) (g : List D → Res (List D)) : Sp := fun vs H Q E => ∃ (M : Addr → Prop) (ds : List D), ds.length = n ∧ (∀ a, M a → H a ≠ none) ∧ RpL Γ M H ds vs ∧
  match g ds with
  | .stuck => False
  | .ok d => WantF Γ M H Q d
  | .exc x => ∀ cv dd H', Same H H' → RpX Γ x cv dd H' → E cv dd H'
/-- all but a is kept -/
def SameBut (a : Addr) (H H' : Hp) : Prop := ∀ b o, b ≠ a → H b = some o → H' b = some o
/-- __init__ of the class c: the fields -/
def spI (Γ : Gam) (c n : Nat) (g : List D → Res (List D)) : Sp := fun vs H Q E => ∃ (M : Addr → Prop) (x dx : Addr) (r : List V) (ds : List D), vs = .ref x :: r ∧ H x = some (.ins (Γ.cls c) dx []) ∧ ds.length = n ∧ (∀ a, M a → H a ≠ none) ∧ ¬ M x ∧ RpL Γ (fun a => M a ∨ a = x) H ds r ∧
  match g ds with
  | .stuck => False
  | .ok fs => ∀ us H', SameBut x H H' → H' x = some (.ins (Γ.cls c) dx us) → us.map (·.1) = (Γ.fld c).take us.length → RpL Γ (fun a => M a ∨ a = x) H' fs (us.map (·.2)) → Q .non H'
  | .exc e => ∀ cv dd H', SameBut x H H' → RpX Γ e cv dd H' → E cv dd H'
/-- the slots at the entry -/
def enter (N : Nat) (ds : List D) : Env := ds.map Cell.val ++ List.replicate (N - ds.length) Cell.no
def runD (N n : Nat) (b : Env → Out) : List D → Res D := fun ds => if ds.length = n then (match b (enter N ds) with
  | .next _ => .ok .non
  | .ret d => .ok d
  | .retF ds => .ok (.lst ds)
  | .exc x _ => .exc x
  | _ => .stuck) else .stuck
def runF (N n : Nat) (b : Env → Out) : List D → Res (List D) := fun ds => if ds.length = n then (match b (enter N ds) with
  | .retF ds => .ok ds
  | .exc x _ => .exc x
  | _ => .stuck) else .stuck
def runI (c N n : Nat) (b : Env → Out) : List D → Res (List D) := fun ds => if ds.length = n then (match b (.ins c [] :: enter (N - 1) ds) with
  | .next (.ins c' fs :: _) => if c' = c then .ok fs else .stuck
  | .exc x _ => .exc x
  | _ => .stuck) else .stuck
section
variable {Γ : Gam}
theorem enter_get {N : Nat} {ds : List D} {i : Nat} {c : Cell} (h : (enter N ds)[i]? = some c) : c = .no ∨ ∃ d, ds[i]? = some d ∧ c = .val d := by
  unfold enter at h
  rw [List.getElem?_append] at h
  split at h
  · rw [List.getElem?_map] at h
    cases q : ds[i]? with
    | none => rw [q] at h; cases h
    | some d =>
      rw [q] at h
      cases h
      exact .inr ⟨d, rfl, rfl⟩
  · rw [List.getElem?_replicate] at h
    split at h
    · cases h
      exact .inl rfl
    · cases h
theorem gd_enter {M : Addr → Prop} {H : Hp} {N : List Str} {ds : List D} {vs : List V} (hM : ∀ a, M a → H a ≠ none) (r : RpL Γ M H ds vs) (hl : ds.length ≤ N.length) : Gd Γ ⟨M, 0, 0⟩ H (L2.start N vs) H (enter N.length ds) := by
  have hv := r.length
  have noown : ∀ i p, ¬ OwnAt (L2.start N vs) (enter N.length ds) i p := fun i p ⟨c, h1, h2, _⟩ => by
    rcases enter_get h1 with e | ⟨d, _, e⟩
    · rw [e] at h2; cases h2
    · rw [e] at h2; cases h2
  have mx : ∀ a, Mx ⟨M, 0, 0⟩ (L2.start N vs) (enter N.length ds) a → M a := fun a h => h.elim id fun ⟨i, z⟩ => (noown i a z).elim
  refine ⟨?_, Same.refl H, hM, fun i c h => ?_, fun i p z => (noown i p z).elim, fun i j p z => (noown i p z).elim⟩
  · unfold L2.start enter
    rw [List.length_append, List.length_append, List.length_map, List.length_map, List.length_replicate, List.length_replicate, hv]
  · rcases enter_get h with e | ⟨d, h1, e⟩
    · rw [e]; trivial
    · rw [e]
      obtain ⟨v, h2, h3⟩ := r.get h1
      refine ⟨v, ?_, Rp.imp (.weak mx) d v h3⟩
      unfold L2.start
      rw [List.getElem?_append_left (by rw [List.length_map]; exact (List.getElem?_eq_some_iff.mp h2).1), List.getElem?_map, h2]
      rfl

abbrev Fx (Γ : Gam) (k : Nat) (f : Addr) (fd : FuncData) (ps : List Str) (sp : Sp) : Prop := FnOk Γ.P Γ.w Γ.K Γ.mg Γ.base (L2.CX Γ.P Γ.w) k f fd ps sp
abbrev Xb (Γ : Gam) (N : List Str) (qual : Str) (scope : Scope) (f : Addr) (cdv : Value) (A : Around) (outer : List PySem.Env) (s : Shared) (H : Hp) (E : XK) : Cx :=
  cxOf (L2.CX Γ.P Γ.w) Γ.P Γ.w Γ.K Γ.mg Γ.base N qual scope f cdv A outer s H E
abbrev Wb (E : XK) : WX := fun cls d _ H => E cls d H
structure Top (Γ : Gam) : Prop where
  tree : Γ.P.given.tree = none
  ns : Γ.base.NoSeer
theorem sit_body {k : Nat} {N ps : List Str} {qual : Str} {scope : Scope} {f : Addr} {cdv : Value} {A : Around} {outer : List PySem.Env} {s : Shared} {H : Hp} {E : XK} (T : Top Γ) (S : FnScope N ps scope)
    (hr : Room k (A.deeper (PyProof.Rows.envOfC qual scope s.heap.objs.size f cdv))) : Sit Γ k (Xb Γ N qual scope f cdv A outer s H E) (Wb E) :=
  ⟨rfl, rfl, rfl, rfl, rfl, fun _ => hr, fun _ => rfl, takes_of rfl rfl rfl rfl, passes_of rfl, S.nd, fun _ h hf hn => PySem.SeerAt.of hn T.tree hf S.gen S.co rfl rfl, T.ns⟩
def Body (Γ : Gam) (k : Nat) (N : List Str) (qual : Str) (scope : Scope) (f : Addr) (body : List Stmt) (b : Env → Out) : Prop :=
  ∀ (cdv : Value) (A : Around) (outer : List PySem.Env) (s : Shared) (H : Hp) (E : XK), DSs Γ k (Xb Γ N qual scope f cdv A outer s H E) (Wb E) body b
variable {k n : Nat} {N ps : List Str} {x qual : Str} {params : Arguments} {body : List Stmt} {scope : Scope} {dvs : List V} {kws : List (Str × V)} {f : Addr} {fd : FuncData} {b : Env → Out}
theorem fx_d (F : FunD Γ.K x qual params body scope dvs kws f fd) (S : FnScope N ps scope) (T : Top Γ) (hp : ps.length = n) (hn : n ≤ N.length) (hb : Body Γ k N qual scope f body b) : Fx Γ (k + 1) f fd ps (spD Γ n (runD N.length n b)) := by
  refine F.ok S (fun vs H Q E h => ?_) (fun cdv A outer s H vs Q E hr h => ?_)
  · obtain ⟨M, ds, hl, _, r, _⟩ := h
    rw [r.length, hl, hp]
  · obtain ⟨M, ds, hl, hM, r, w⟩ := h
    obtain ⟨ts, pt, run⟩ := hb cdv A outer s H E (sit_body T S hr)
    refine ⟨ts, pt, run ⟨M, 0, 0⟩ H _ H _ _ (gd_enter hM r (by omega)) ?_⟩
    unfold runD at w
    rw [if_pos hl] at w
    cases q : b (enter N.length ds) with
    | stuck => rw [q] at w; exact w.elim
    | next ρ' =>
      rw [q] at w
      exact fun σ' H' G' => w .non H' G'.ext (by rw [Rp])
    | ret d =>
      rw [q] at w
      exact fun v H' e r => w v H' e r
    | retF es =>
      rw [q] at w
      intro p us H' h0 e h1 r1
      refine w (.ref p) H' e ?_
      rw [Rp]
      exact ⟨p, us, rfl, .inl ⟨.inl h1, fun z => hM p z h0⟩, RpL.imp (.weak fun a z => .inl z) _ _ r1⟩
    | exc y ρ' =>
      rw [q] at w
      exact fun cv dd σ' H' G' r' => w cv dd H' G'.ext r'
    | brk ρ' => rw [q] at w; exact w.elim
    | cnt ρ' => rw [q] at w; exact w.elim
theorem fx_f (F : FunD Γ.K x qual params body scope dvs kws f fd) (S : FnScope N ps scope) (T : Top Γ) (hp : ps.length = n) (hn : n ≤ N.length) (hb : Body Γ k N qual scope f body b) : Fx Γ (k + 1) f fd ps (spF Γ n (runF N.length n b)) := by
  refine F.ok S (fun vs H Q E h => ?_) (fun cdv A outer s H vs Q E hr h => ?_)
  · obtain ⟨M, ds, hl, _, r, _⟩ := h
    rw [r.length, hl, hp]
  · obtain ⟨M, ds, hl, hM, r, w⟩ := h
    obtain ⟨ts, pt, run⟩ := hb cdv A outer s H E (sit_body T S hr)
    refine ⟨ts, pt, run ⟨M, 0, 0⟩ H _ H _ _ (gd_enter hM r (by omega)) ?_⟩
    unfold runF at w
    rw [if_pos hl] at w
    cases q : b (enter N.length ds) with
    | stuck => rw [q] at w; exact w.elim
    | next ρ' => rw [q] at w; exact w.elim
    | ret d => rw [q] at w; exact w.elim
    | retF es =>
      rw [q] at w
      exact fun p us H' h0 e h1 r1 => w p us H' h0 e h1 r1
    | exc y ρ' =>
      rw [q] at w
      exact fun cv dd σ' H' G' r' => w cv dd H' G'.ext r'
    | brk ρ' => rw [q] at w; exact w.elim
    | cnt ρ' => rw [q] at w; exact w.elim
/-- the heap without a -/
def hide (H : Hp) (a : Addr) : Hp := fun b => if b = a then none else H b
theorem hide_some {H : Hp} {a b : Addr} {o : HO} (h : hide H a b = some o) : b ≠ a ∧ H b = some o := by
  unfold hide at h
  split at h
  · cases h
  · rename_i z
    exact ⟨z, h⟩
theorem hide_ne {H : Hp} {a b : Addr} (h : b ≠ a) : hide H a b = H b := by unfold hide; rw [if_neg h]
theorem gd_enterI {M : Addr → Prop} {H : Hp} {N : List Str} {y : Str} {ds : List D} {vs : List V} {x dx : Addr} {c : Nat} (hx : H x = some (.ins (Γ.cls c) dx [])) (hM : ∀ a, M a → H a ≠ none) (nx : ¬ M x) (r : RpL Γ (fun a => M a ∨ a = x) H ds vs) (hl : ds.length ≤ N.length) :
    Gd Γ ⟨M, x, dx⟩ (hide H x) (L2.start (y :: N) (.ref x :: vs)) H (.ins c [] :: enter N.length ds) := by
  have hv := r.length
  have e0 : L2.start (y :: N) (.ref x :: vs) = some (.ref x) :: L2.start N vs := by
    unfold L2.start
    simp
  rw [e0]
  have own : ∀ i p, OwnAt (some (V.ref x) :: L2.start N vs) (.ins c [] :: enter N.length ds) i p → i = 0 ∧ p = x := fun i p ⟨d, h1, h2, h3⟩ => by
    cases i with
    | zero =>
      simp at h3
      exact ⟨rfl, h3.symm⟩
    | succ i =>
      have h1' : (enter N.length ds)[i]? = some d := by simpa using h1
      rcases enter_get h1' with e | ⟨d, _, e⟩
      · rw [e] at h2; cases h2
      · rw [e] at h2; cases h2
  have mx : ∀ a, Mx ⟨M, x, dx⟩ (some (V.ref x) :: L2.start N vs) (.ins c [] :: enter N.length ds) a → M a ∨ a = x := fun a h => h.elim .inl fun ⟨i, z⟩ => .inr (own i a z).2
  refine ⟨?_, fun a o h => (hide_some h).2, fun a h => ?_, fun i d h => ?_, fun i p z => ?_, fun i j p z z' => by rw [(own i p z).1, (own j p z').1]⟩
  · unfold L2.start enter
    simp [hv]
  · rw [hide_ne (fun q => nx (by rw [← q]; exact h))]
    exact hM a h
  · cases i with
    | zero =>
      simp at h
      subst h
      exact ⟨[], by simp, hx, by simp, .nil⟩
    | succ i =>
      have h1' : (enter N.length ds)[i]? = some d := by simpa using h
      rcases enter_get h1' with e | ⟨d', h1, e⟩
      · rw [e]; trivial
      · rw [e]
        obtain ⟨v, h2, h3⟩ := r.get h1
        refine ⟨v, ?_, Rp.imp (.weak mx) d' v h3⟩
        show (L2.start N vs)[i]? = _
        unfold L2.start
        rw [List.getElem?_append_left (by rw [List.length_map]; exact (List.getElem?_eq_some_iff.mp h2).1), List.getElem?_map, h2]
        rfl
  · rw [(own i p z).2]
    unfold hide
    rw [if_pos rfl]
theorem fx_i {c : Nat} {y : Str} (F : FunD Γ.K x qual params body scope dvs kws f fd) (S : FnScope (y :: N) ps scope) (T : Top Γ) (hp : ps.length = n + 1) (hn : n ≤ N.length) (hb : Body Γ k (y :: N) qual scope f body b) :
    Fx Γ (k + 1) f fd ps (spI Γ c n (runI c (N.length + 1) n b)) := by
  refine F.ok S (fun vs H Q E h => ?_) (fun cdv A outer s H vs Q E hr h => ?_)
  · obtain ⟨M, x, dx, rs, ds, rfl, _, hl, _, _, r, _⟩ := h
    rw [List.length_cons, r.length, hl, hp]
  · obtain ⟨M, x, dx, rs, ds, rfl, hx, hl, hM, nx, r, w⟩ := h
    obtain ⟨ts, pt, run⟩ := hb cdv A outer s H E (sit_body T S hr)
    have G0 := gd_enterI (N := N) (y := y) hx hM nx r (by omega)
    refine ⟨ts, pt, run ⟨M, x, dx⟩ (hide H x) _ H _ _ G0 ?_⟩
    have back : ∀ {H'}, Same (hide H x) H' → SameBut x H H' := fun e b o h1 h2 => e b o (by rw [hide_ne h1]; exact h2)
    unfold runI at w
    rw [if_pos hl, Nat.add_sub_cancel] at w
    cases q : b (.ins c [] :: enter N.length ds) with
    | stuck => rw [q] at w; exact w.elim
    | next ρ' =>
      rw [q] at w
      intro σ' H' G'
      cases ρ' with
      | nil => exact w.elim
      | cons c0 ρ'' =>
        cases c0 with
        | no => exact w.elim
        | val d => exact w.elim
        | own ds => exact w.elim
        | ins c' fs =>
          by_cases hc : c' = c
          · simp only [if_pos hc] at w
            obtain ⟨us, e1, h1, h2, h3⟩ := G'.cel 0 _ rfl
            rw [hc] at h1 h2
            refine w us H' (back G'.ext) h1 h2 (RpL.imp (.weak fun a z => ?_) _ _ h3)
            rcases z with z | z
            · exact .inl z
            · exact .inr ⟨0, _, rfl, rfl, by rw [z]; exact e1⟩
          · simp only [if_neg hc] at w
    | ret d => rw [q] at w; exact w.elim
    | retF es => rw [q] at w; exact w.elim
    | exc y ρ' =>
      rw [q] at w
      exact fun cv dd σ' H' G' r' => w cv dd H' (back G'.ext) r'
    | brk ρ' => rw [q] at w; exact w.elim
    | cnt ρ' => rw [q] at w; exact w.elim
end
set_option Elab.async false
set_option linter.all false
set_option maxRecDepth 100000
set_option maxHeartbeats 4000000
open PySem L2
/-! ### what may be called -/
structure Cal (Γ : Gam) (j : Nat) (f : Addr) (g : List D → Res D) : Prop where
  ex : ∃ (fd : FuncData) (ps : List Str) (dvs : List V) (ds : List Value) (dd : List D) (n : Nat) (g' : List D → Res D), Vals dvs ds ∧ Binds Γ.K fd ps ds ∧ Fx Γ j f fd ps (spD Γ n g') ∧ (∀ M H, RpL Γ M H dd dvs) ∧ (∀ as, as.length ≠ n → g' as = .stuck) ∧ ∀ as, g as = g' (as ++ dd)
structure CalF (Γ : Gam) (j : Nat) (f : Addr) (g : List D → Res (List D)) : Prop where
  ex : ∃ (fd : FuncData) (ps : List Str) (dvs : List V) (ds : List Value) (dd : List D) (n : Nat) (g' : List D → Res (List D)), Vals dvs ds ∧ Binds Γ.K fd ps ds ∧ Fx Γ j f fd ps (spF Γ n g') ∧ (∀ M H, RpL Γ M H dd dvs) ∧ (∀ as, as.length ≠ n → g' as = .stuck) ∧ ∀ as, g as = g' (as ++ dd)
structure CalI (Γ : Gam) (j : Nat) (c : Nat) (g : List D → Res (List D)) : Prop where
  ex : ∃ (f : Addr) (fd : FuncData) (ps : List Str) (dvs : List V) (ds : List Value) (dd : List D) (n : Nat) (g' : List D → Res (List D)), Mk Γ.K (Γ.cls c) f ∧ Vals dvs ds ∧ Binds Γ.K fd ps ds ∧ Fx Γ j f fd ps (spI Γ c n g') ∧ (∀ M H, RpL Γ M H dd dvs) ∧ (∀ as, as.length ≠ n → g' as = .stuck) ∧ ∀ as, g as = g' (as ++ dd)
/-- the module's name x stands for such a function -/
structure Glo (Γ : Gam) (x : Str) (f : Addr) : Prop where
  mg : Γ.mg x = some (.ref f)
  kp : PySem.W.keepIn Γ.K (.ref f) = true
structure ClsOk (Γ : Gam) (c : Nat) (x : Str) : Prop where
  mg : Γ.mg x = some (.ref (Γ.cls c))
  cl : Cls Γ.K (Γ.cls c)
  sf : PySem.W.selfFirst Γ.K (Γ.cls c) = true
  hc : PySem.W.findIn Γ.K (.ref (Γ.cls c)) "__class__" = some (some (.builtin "object.__class__"))
  hn : PySem.W.specialIn Γ.K (.builtin "object.__class__") "__get__" = some (some (.builtin "getset_descriptor.__get__"))
  tk : PySem.W.takesIn Γ.K (.builtin "object.__class__") = some true
  mo : PySem.W.mroIn Γ.K (Γ.cls c) (.type "object") = some true
section
variable {Γ : Gam} {k j : Nat} {X : Cx} {W : WX}
theorem Post.stuck_not {α : Type} {σ : St} {H : Hp} {r : Res α} {Q : α → Prop} (h : Post Γ W σ H r Q) : r ≠ .stuck := fun q => by rw [q] at h; exact h
theorem Sit.room' (S : Sit Γ k X W) (hk : 0 < k) (hj : j ≤ k) : Room j X.A := (S.room hk).mono hj
theorem spD_of {M : Addr → Prop} {σ : St} {H : Hp} {Q : VK} {as : List D} {vs : List V} {n : Nat} {g : List D → Res D} (hl : ∀ as, as.length ≠ n → g as = .stuck) (hM : ∀ a, M a → H a ≠ none) (r : RpL Γ M H as vs) (h : Post Γ W σ H (g as) (WantE Γ M H Q)) : spD Γ n g vs H Q (WE W σ) := by
  refine ⟨M, as, Decidable.byContradiction fun z => h.stuck_not (hl as z), hM, r, ?_⟩
  cases q : g as with
  | stuck => rw [q] at h; exact h
  | ok d => rw [q] at h; exact h
  | exc x => rw [q] at h; exact h
theorem spF_of {M : Addr → Prop} {σ : St} {H : Hp} {Q : VK} {as : List D} {vs : List V} {n : Nat} {g : List D → Res (List D)} (hl : ∀ as, as.length ≠ n → g as = .stuck) (hM : ∀ a, M a → H a ≠ none) (r : RpL Γ M H as vs) (h : Post Γ W σ H (g as) (WantF Γ M H Q)) : spF Γ n g vs H Q (WE W σ) := by
  refine ⟨M, as, Decidable.byContradiction fun z => h.stuck_not (hl as z), hM, r, ?_⟩
  cases q : g as with
  | stuck => rw [q] at h; exact h
  | ok d => rw [q] at h; exact h
  | exc x => rw [q] at h; exact h
theorem Cal.run {f : Addr} {g : List D → Res D} (C : Cal Γ j f g) (S : Sit Γ k X W) (hk : 0 < k) (hj : j ≤ k) {pins : List (Addr × Obj)} {σ : St} {H : Hp} {s : Shared} {Q : VK} {us : List Value} {vs : List V} {M : Addr → Prop} {as : List D}
    (I : Inv X pins σ H s) (rv : Vals vs us) (hM : ∀ a, M a → H a ≠ none) (r : RpL Γ M H as vs) (h : Post Γ W σ H (g as) (WantE Γ M H Q)) : wpAny (model X.prog X.w) X.A (call (.ref f) us) (EP X pins σ Q) X.xe s := by
  obtain ⟨fd, ps, dvs, ds, dd, n, g', h1, h2, h3, h4, h5, h6⟩ := C.ex
  rw [h6] at h
  have F : FnOk X.prog X.w X.K X.mg X.base (L2.CX X.prog X.w) j f fd ps (spD Γ n g') := by rw [S.P, S.w, S.K, S.mg, S.base]; exact h3
  exact run_fnSD (E := WE W) F (S.room' hk hj) (by rw [S.K]; exact h2) h1 (passAt S.takes σ) I rv (spD_of h5 hM (r.append (h4 M H)) h)
theorem CalF.run {f : Addr} {g : List D → Res (List D)} (C : CalF Γ j f g) (S : Sit Γ k X W) (hk : 0 < k) (hj : j ≤ k) {pins : List (Addr × Obj)} {σ : St} {H : Hp} {s : Shared} {Q : VK} {us : List Value} {vs : List V} {M : Addr → Prop} {as : List D}
    (I : Inv X pins σ H s) (rv : Vals vs us) (hM : ∀ a, M a → H a ≠ none) (r : RpL Γ M H as vs) (h : Post Γ W σ H (g as) (WantF Γ M H Q)) : wpAny (model X.prog X.w) X.A (call (.ref f) us) (EP X pins σ Q) X.xe s := by
  obtain ⟨fd, ps, dvs, ds, dd, n, g', h1, h2, h3, h4, h5, h6⟩ := C.ex
  rw [h6] at h
  have F : FnOk X.prog X.w X.K X.mg X.base (L2.CX X.prog X.w) j f fd ps (spF Γ n g') := by rw [S.P, S.w, S.K, S.mg, S.base]; exact h3
  exact run_fnSD (E := WE W) F (S.room' hk hj) (by rw [S.K]; exact h2) h1 (passAt S.takes σ) I rv (spF_of h5 hM (r.append (h4 M H)) h)
/-- a new instance -/
theorem CalI.run {c : Nat} {g : List D → Res (List D)} (C : CalI Γ j c g) (S : Sit Γ k X W) (hj : j + 1 ≤ k) {pins : List (Addr × Obj)} {σ : St} {H : Hp} {s : Shared} {Q : VK} {us : List Value} {vs : List V} {M : Addr → Prop} {as : List D}
    (I : Inv X pins σ H s) (rv : Vals vs us) (hM : ∀ a, M a → H a ≠ none) (r : RpL Γ M H as vs) (h : Post Γ W σ H (g as) (fun fs => WantE Γ M H Q (.obj c fs))) : wpAny (model X.prog X.w) X.A (call (.ref (Γ.cls c)) us) (EP X pins σ Q) X.xe s := by
  obtain ⟨f, fd, ps, dvs, ds, dd, n, g', mk, h1, h2, h3, h4, h5, h6⟩ := C.ex
  rw [h6] at h
  have F : FnOk X.prog X.w X.K X.mg X.base (L2.CX X.prog X.w) j f fd ps (spI Γ c n g') := by rw [S.P, S.w, S.K, S.mg, S.base]; exact h3
  have mkX : Mk X.K (Γ.cls c) f := by rw [S.K]; exact mk
  have rm : Room (j + 1) X.A := (S.room (by omega)).mono hj
  generalize ea : s.heap.objs.size = a at *
  have n1 : H (a + 1) = none := I.hok.fresh (by rw [ea]; exact Nat.le_succ a)
  have n0 : H a = none := I.hok.fresh (Nat.le_of_eq ea)
  have ne : a ≠ a + 1 := Nat.ne_of_lt (Nat.lt_succ_self a)
  have I2 := Inv.made (C := Γ.cls c) I
  rw [ea] at I2
  generalize eH : upd (upd H a (.own (a + 1))) (a + 1) (.ins (Γ.cls c) a []) = H1 at I2
  have same1 : Same H H1 := fun b o e => by
    rw [← eH, upd_ne (ne_of_none e n1), upd_ne (ne_of_none e n0)]
    exact e
  have same2 : ∀ {H2}, SameBut (a + 1) H1 H2 → Same H H2 := fun z b o e => z b o (ne_of_none e n1) (same1 b o e)
  have nM : ¬ M (a + 1) := fun z => hM _ z n1
  have hsp : spI Γ c n g' (.ref (a + 1) :: (vs ++ dvs)) H1 (fun v H2 => v = .non ∧ Q (.ref (a + 1)) H2) (WE W σ) := by
    refine ⟨M, a + 1, a, vs ++ dvs, as ++ dd, rfl, by rw [← eH]; exact upd_same, Decidable.byContradiction fun z => h.stuck_not (h5 _ z), fun b z q => ?_, nM, RpL.imp (Imp.trans (Imp.fresh n1) (.mono same1)) _ _ (r.append (h4 M H)), ?_⟩
    · cases e : H b with
      | none => exact hM b z e
      | some o => rw [same1 b o e] at q; cases q
    · cases q : g' (as ++ dd) with
      | stuck => rw [q] at h; exact h
      | ok fs =>
        rw [q] at h
        intro us' H2 hs hx hn hr
        refine ⟨rfl, h _ H2 (same2 hs) ?_⟩
        rw [Rp]
        exact ⟨a + 1, a, us', rfl, hx, nM, hn, RpL.imp (.weak fun _ z => .inl z) _ _ hr⟩
      | exc e =>
        rw [q] at h
        exact fun cv dd' H2 hs hx => h cv dd' H2 (same2 hs) hx
  have rv2 : Vals (V.ref (a + 1) :: (vs ++ dvs)) (Value.ref (a + 1) :: (us ++ ds)) := .cons rfl (rv.append h1)
  have hl : (Value.ref (a + 1) :: us ++ ds).length = ps.length := by
    have e := rv2.length
    rw [F.len _ _ _ _ hsp] at e
    exact e.symm
  have h2X : Binds X.K fd ps ds := by rw [S.K]; exact h2
  refine wpAny_call (L2.make_map (f := f) I.kIn mkX.makes mkX.init (beq_iff_eq.mp mkX.fn) ?_)
  rw [ea]
  refine codeAny_mono (F.run _ X.stack _ _ ⟨Value.ref (a + 1) :: us, []⟩ (Value.ref (a + 1) :: (us ++ ds)) _ _ (WE W σ) (rm.make (Γ.cls c) us []) (I2.env0.make (Γ.cls c) us []) (h2X _ (Value.ref (a + 1) :: us) I2.kIn hl) rv2 hsp) fun r s' hq' => ?_
  cases r with
  | error e => exact passAt S.takes σ pins _ _ e s' I2 hq'
  | ok fl =>
    cases fl with
    | ret u =>
      obtain ⟨v, H', I3, rv3, wp_walk, q3⟩ := I2.after hq'
      subst wp_walk
      exact ⟨rv3, V.ref (a + 1), H', I3, rfl, q3⟩
    | next => exact False.elim hq'
    | brk => exact False.elim hq'
    | cont => exact False.elim hq'
end
set_option Elab.async false
set_option linter.all false
set_option maxRecDepth 100000
set_option maxHeartbeats 4000000
open PySem L2
section
variable {Γ : Gam} {k j : Nat} {X : Cx} {W : WX}
/-! ### argument lists -/
theorem da_nil : DA Γ k X W [] E.nil := fun S => ⟨_, pa_nil, fun M0 H0 σ H ρ Q G h => h [] H (Same.refl H) .nil⟩
theorem WantA.back {M : Addr → Prop} {H H' : Hp} {Q : List V → Hp → Prop} {ds : List D} (e : Same H H') (h : WantA Γ M H Q ds) : WantA Γ M H' Q ds := fun v H1 e1 r => h v H1 (e.trans e1) r
theorem da_cons {e : Expr} {es : List Expr} {f : Env → Res D} {g : Env → Res (List D)} (he : DE Γ k X W e f) (ht : DA Γ k X W es g) (hs : starEach (e :: es) X.env = (false, eval e X.env) :: starEach es X.env := by rfl) : DA Γ k X W (e :: es) (E.cons f g) := fun S => by
  obtain ⟨te, pe, re⟩ := he S
  obtain ⟨ta, pa, ra⟩ := ht S
  refine ⟨_, pa_cons pe pa hs, fun M0 H0 σ H ρ Q G h => ?_⟩
  refine re M0 H0 σ H ρ _ G ((Post.bind h).imp (Same.refl H) fun d q1 v H1 e1 r1 => ?_)
  have G1 := G.mono e1
  refine ra M0 H0 σ H1 ρ _ G1 ((Post.bind q1).imp e1 fun ds q2 vs H2 e2 r2 => ?_)
  exact q2 _ H2 (e1.trans e2) (.cons (r1.mono e2) r2)
/-! ### calls by a name of the module -/
def tCal (Γ : Gam) (W : WX) (M : St → Addr → Prop) (r : List V → St → Hp → VK → Prop) (ta : TA) : TE := fun σ H Q => ta σ H fun vs H1 => r vs σ H1 Q
theorem pe_calV {x : Str} {p pos : Pos} {e : Expr} {es : List Expr} {f : Addr} {ta : TA} {r : List V → St → Hp → VK → Prop} (hg : Gl X x) (hm : X.mg x = some (.ref f)) (hk : PySem.W.keepIn X.K (.ref f) = true) (pa : PA X (e :: es) ta)
    (run : ∀ (pins : List (Addr × Obj)) (s : Shared) (σ : St) (H : Hp) (Q : VK) (us : List Value) (vs : List V), Inv X pins σ H s → Vals vs us → r vs σ H Q → wpAny (model X.prog X.w) X.A (call (.ref f) us) (EP X pins σ Q) X.xe s)
    (hdb : (x == ("__debug__" : Str)) = false := by decide) (hst : starEach (e :: es) X.env = (false, eval e X.env) :: starEach es X.env := by rfl) (hpl : (backTo pos (starEach es X.env)).any (·.1) = false := by rfl) :
    PE X (.Call (.Name x p) (e :: es) [] pos) (fun σ H Q => ta σ H fun vs H1 => r vs σ H1 Q) := by
  refine ⟨fun pins s σ H Q I h => wpAny_Call_Name_kw (ld_glob I hg hm ?_ hdb)⟩
  exact PySem.W.callWith_K (h₀ := X.base) I.ok.mod.kin hk (thn (pa.run pos pins s σ H _ I h) fun us s1 ⟨vs, H1, I1, rv, q⟩ => ⟨I1.kIn, run pins s1 σ H1 Q us vs I1 rv q⟩) hst hpl
theorem pe_calV0 {x : Str} {p pos : Pos} {f : Addr} {r : List V → St → Hp → VK → Prop} (hg : Gl X x) (hm : X.mg x = some (.ref f)) (hk : PySem.W.keepIn X.K (.ref f) = true)
    (run : ∀ (pins : List (Addr × Obj)) (s : Shared) (σ : St) (H : Hp) (Q : VK) (us : List Value) (vs : List V), Inv X pins σ H s → Vals vs us → r vs σ H Q → wpAny (model X.prog X.w) X.A (call (.ref f) us) (EP X pins σ Q) X.xe s)
    (hdb : (x == ("__debug__" : Str)) = false := by decide) : PE X (.Call (.Name x p) [] [] pos) (fun σ H Q => r [] σ H Q) :=
  ⟨fun pins s σ H Q I h => wpAny_Call_Name_kw (ld_glob I hg hm (PySem.W.callWith_K0 I.kIn hk (run pins s σ H Q [] [] I .nil h)) hdb)⟩
/-- what the rules of calls hand on -/
def RCal (Γ : Gam) (W : WX) {α : Type} (g : List D → Res α) (want : (Addr → Prop) → Hp → VK → α → Prop) : List V → St → Hp → VK → Prop := fun vs σ H Q => ∃ (M : Addr → Prop) (as : List D), (∀ a, M a → H a ≠ none) ∧ RpL Γ M H as vs ∧ Post Γ W σ H (g as) (want M H Q)
theorem de_app {α : Type} {e : List Expr} {fa : Env → Res (List D)} {g : List D → Res α} {want : (Addr → Prop) → Hp → VK → α → Prop} {ta : TA} (back : ∀ M H H' Q a, Same H H' → want M H Q a → want M H' Q a)
    (ra : ∀ M0 H0 σ H ρ Q, Gd Γ M0 H0 σ H ρ → Post Γ W σ H (fa ρ) (WantA Γ (Mx M0 σ ρ) H Q) → ta σ H Q)
    {M0 : Bd} {H0 : Hp} {σ : St} {H : Hp} {ρ : Env} {Q : VK} (G : Gd Γ M0 H0 σ H ρ) (h : Post Γ W σ H ((fa ρ).bind g) (want (Mx M0 σ ρ) H Q)) : ta σ H fun vs H1 => RCal Γ W g want vs σ H1 Q := by
  refine ra M0 H0 σ H ρ _ G ((Post.bind h).imp (Same.refl H) fun ds q vs H1 e1 r1 => ?_)
  exact ⟨Mx M0 σ ρ, ds, fun a z => Mx.alive (G.mono e1) z, r1, q.imp e1 fun a z => back _ _ _ _ _ e1 z⟩
theorem WantF.back {M : Addr → Prop} {H H' : Hp} {Q : VK} {d : List D} (e : Same H H') (h : WantF Γ M H Q d) : WantF Γ M H' Q d := fun p vs H1 h0 e1 h1 r => h p vs H1 (by
  cases q : H p with
  | none => rfl
  | some o => rw [e p o q] at h0; cases h0) (e.trans e1) h1 r
theorem de_call {x : Str} {p pos : Pos} {e : Expr} {es : List Expr} {f : Addr} {fa : Env → Res (List D)} {g : List D → Res D} (N : Glo Γ x f) (C : Cal Γ j f g) (ha : DA Γ k X W (e :: es) fa) (hg : Gl X x := by rfl) (hk : 0 < k := by first | decide | omega) (hj : j ≤ k := by first | decide | omega)
    (hdb : (x == ("__debug__" : Str)) = false := by decide) (hst : starEach (e :: es) X.env = (false, eval e X.env) :: starEach es X.env := by rfl) (hpl : (backTo pos (starEach es X.env)).any (·.1) = false := by rfl) :
    DE Γ k X W (.Call (.Name x p) (e :: es) [] pos) (E.app g fa) := fun S => by
  obtain ⟨ta, pa, ra⟩ := ha S
  refine ⟨_, pe_calV (r := RCal Γ W g (WantE Γ)) hg (by rw [S.mg]; exact N.mg) (by rw [S.K]; exact N.kp) pa (fun pins s σ H Q us vs I rv ⟨M, as, hM, r, h⟩ => C.run S hk hj I rv hM r h) hdb hst hpl, fun M0 H0 σ H ρ Q G h => ?_⟩
  exact de_app (e := es) (g := g) (want := WantE Γ) (fun _ _ _ _ _ e z => WantE.back e z) ra G h
theorem df_call {x : Str} {p pos : Pos} {e : Expr} {es : List Expr} {f : Addr} {fa : Env → Res (List D)} {g : List D → Res (List D)} (N : Glo Γ x f) (C : CalF Γ j f g) (ha : DA Γ k X W (e :: es) fa) (hg : Gl X x := by rfl) (hk : 0 < k := by first | decide | omega) (hj : j ≤ k := by first | decide | omega)
    (hdb : (x == ("__debug__" : Str)) = false := by decide) (hst : starEach (e :: es) X.env = (false, eval e X.env) :: starEach es X.env := by rfl) (hpl : (backTo pos (starEach es X.env)).any (·.1) = false := by rfl) :
    DF Γ k X W (.Call (.Name x p) (e :: es) [] pos) (E.appF g fa) := fun S => by
  obtain ⟨ta, pa, ra⟩ := ha S
  refine ⟨_, pe_calV (r := RCal Γ W g (WantF Γ)) hg (by rw [S.mg]; exact N.mg) (by rw [S.K]; exact N.kp) pa (fun pins s σ H Q us vs I rv ⟨M, as, hM, r, h⟩ => C.run S hk hj I rv hM r h) hdb hst hpl, fun M0 H0 σ H ρ Q G h => ?_⟩
  exact de_app (e := es) (g := g) (want := WantF Γ) (fun _ _ _ _ _ e z => WantF.back e z) ra G h
theorem de_call0 {x : Str} {p pos : Pos} {f : Addr} {g : List D → Res D} (N : Glo Γ x f) (C : Cal Γ j f g) (hg : Gl X x := by rfl) (hk : 0 < k := by first | decide | omega) (hj : j ≤ k := by first | decide | omega) (hdb : (x == ("__debug__" : Str)) = false := by decide) :
    DE Γ k X W (.Call (.Name x p) [] [] pos) (E.app g E.nil) := fun S =>
  ⟨_, pe_calV0 (r := RCal Γ W g (WantE Γ)) hg (by rw [S.mg]; exact N.mg) (by rw [S.K]; exact N.kp) (fun pins s σ H Q us vs I rv ⟨M, as, hM, r, h⟩ => C.run S hk hj I rv hM r h) hdb, fun M0 H0 σ H ρ Q G h => ⟨Mx M0 σ ρ, [], fun a z => Mx.alive G z, .nil, h⟩⟩
theorem df_call0 {x : Str} {p pos : Pos} {f : Addr} {g : List D → Res (List D)} (N : Glo Γ x f) (C : CalF Γ j f g) (hg : Gl X x := by rfl) (hk : 0 < k := by first | decide | omega) (hj : j ≤ k := by first | decide | omega) (hdb : (x == ("__debug__" : Str)) = false := by decide) :
    DF Γ k X W (.Call (.Name x p) [] [] pos) (E.appF g E.nil) := fun S =>
  ⟨_, pe_calV0 (r := RCal Γ W g (WantF Γ)) hg (by rw [S.mg]; exact N.mg) (by rw [S.K]; exact N.kp) (fun pins s σ H Q us vs I rv ⟨M, as, hM, r, h⟩ => C.run S hk hj I rv hM r h) hdb, fun M0 H0 σ H ρ Q G h => ⟨Mx M0 σ ρ, [], fun a z => Mx.alive G z, .nil, h⟩⟩
/-- C(e, ..) -/
def objR (c : Nat) (g : List D → Res (List D)) : List D → Res D := fun as => (g as).bind fun fs => .ok (.obj c fs)
theorem objR_post {c : Nat} {g : List D → Res (List D)} {as : List D} {σ : St} {H : Hp} {Q : D → Prop} (h : Post Γ W σ H (objR c g as) Q) : Post Γ W σ H (g as) fun fs => Q (.obj c fs) := Post.bind h
theorem de_make {x : Str} {p pos : Pos} {e : Expr} {es : List Expr} {c : Nat} {fa : Env → Res (List D)} {g : List D → Res (List D)} (N : ClsOk Γ c x) (C : CalI Γ j c g) (ha : DA Γ k X W (e :: es) fa) (hg : Gl X x := by rfl) (hj : j + 1 ≤ k := by first | decide | omega)
    (hdb : (x == ("__debug__" : Str)) = false := by decide) (hst : starEach (e :: es) X.env = (false, eval e X.env) :: starEach es X.env := by rfl) (hpl : (backTo pos (starEach es X.env)).any (·.1) = false := by rfl) :
    DE Γ k X W (.Call (.Name x p) (e :: es) [] pos) (E.app (objR c g) fa) := fun S => by
  obtain ⟨ta, pa, ra⟩ := ha S
  obtain ⟨_, _, _, _, _, _, _, _, mk, _⟩ := C.ex
  refine ⟨_, pe_calV (r := RCal Γ W (objR c g) (WantE Γ)) hg (by rw [S.mg]; exact N.mg) (by rw [S.K]; exact mk.kp) pa (fun pins s σ H Q us vs I rv ⟨M, as, hM, r, h⟩ => C.run S hj I rv hM r (objR_post h)) hdb hst hpl, fun M0 H0 σ H ρ Q G h => ?_⟩
  exact de_app (e := es) (g := objR c g) (want := WantE Γ) (fun _ _ _ _ _ e z => WantE.back e z) ra G h
/-! ### methods -/
structure CalM (Γ : Gam) (j : Nat) (c : Nat) (m : Str) (g : List D → Res D) : Prop where
  ex : ∃ f, Meth Γ.K (Γ.cls c) m f ∧ Cal Γ j f g
  no : m ∉ Γ.fld c
theorem lookup_no {us : List (Str × V)} {m : Str} {l : List Str} {n : Nat} (e : us.map (·.1) = l.take n) (h : m ∉ l) : us.lookup m = none := by
  cases q : us.lookup m with
  | none => rfl
  | some v =>
    have h1 : m ∈ us.map (·.1) := by
      clear e
      induction us with
      | nil => cases q
      | cons a r ih =>
        obtain ⟨a1, a2⟩ := a
        rw [List.lookup_cons] at q
        split at q
        · rename_i z
          rw [beq_iff_eq.mp z]
          exact List.mem_cons_self
        · exact List.mem_cons_of_mem _ (ih q)
    rw [e] at h1
    exact (h (List.mem_of_mem_take h1)).elim
/-- the receiver is an instance of c -/
def isObj (c : Nat) (g : List D → Res D) : D → List D → Res D := fun x as => match x with
  | .obj c' _ => if c' = c then g (x :: as) else .stuck
  | _ => .stuck
def E.meth (c : Nat) (g : List D → Res D) (fo : Env → Res D) (fa : Env → Res (List D)) : Env → Res D := fun ρ => (fo ρ).bind fun x => match x with
  | .obj c' _ => if c' = c then (fa ρ).bind fun as => g (x :: as) else .stuck
  | _ => .stuck
theorem meth_obj {c : Nat} {g : List D → Res D} {x : D} {r : Res (List D)} {σ : St} {H : Hp} {Q : D → Prop}
    (h : Post Γ W σ H (match x with | .obj c' _ => if c' = c then r.bind fun as => g (x :: as) else .stuck | _ => .stuck) Q) : ∃ fs, x = .obj c fs ∧ Post Γ W σ H (r.bind fun as => g (x :: as)) Q := by
  cases x with
  | obj c' fs =>
    dsimp only at h
    split at h
    · rename_i e
      exact ⟨fs, by rw [e], h⟩
    · exact h.elim
  | _ => exact h.elim
theorem de_meth {pl : Sem Bool} {o e : Expr} {es : List Expr} {m x : Str} {apos pos : Pos} {c : Nat} {fo : Env → Res D} {fa : Env → Res (List D)} {g : List D → Res D} (K : ClsOk Γ c x) (C : CalM Γ j c m g) (ho : DE Γ k X W o fo) (ha : DA Γ k X W (e :: es) fa)
    (hk : 0 < k := by first | decide | omega) (hj : j ≤ k := by first | decide | omega) (hst : starEach (e :: es) X.env = (false, eval e X.env) :: starEach es X.env := by rfl) (hpl : (backTo pos (starEach es X.env)).any (·.1) = false := by rfl)
    (ht : eval (.Call (.Attribute o m apos) (e :: es) [] pos) X.env = (do
      let r ← eval o X.env
      standAt apos.atName
      let (h, l) ← holding [r] (getMethod r m pl)
      callWith pos h l (backTo pos (starEach (e :: es) X.env)) (backToKw pos (keywordEach [] X.env))) := by rfl) : DE Γ k X W (.Call (.Attribute o m apos) (e :: es) [] pos) (E.meth c g fo fa) := fun S => by
  obtain ⟨to, po, ro⟩ := ho S
  obtain ⟨ta, pa, ra⟩ := ha S
  obtain ⟨f, mt, cal⟩ := C.ex
  have clX : Cls X.K (Γ.cls c) := by rw [S.K]; exact K.cl
  have mtX : Meth X.K (Γ.cls c) m f := by rw [S.K]; exact mt
  refine ⟨fun σ H Q => to σ H fun x H1 => ∃ a dx us, x = V.ref a ∧ H1 a = some (.ins (Γ.cls c) dx us) ∧ us.lookup m = none ∧ ta σ H1 fun vs H2 => RCal Γ W g (WantE Γ) (.ref a :: vs) σ H2 Q, ⟨fun pins s σ H Q I h => ?_⟩, fun M0 H0 σ H ρ Q G h => ?_⟩
  · refine PySem.W.methodCall_KW (pl := pl) (thn (po.run pins s σ H _ I h) fun u s1 ⟨x, H1, I1, rx, a, dx, us, ex, ea, l, q⟩ => ?_) ht
    subst ex
    cases rx
    refine getmeth_ok I1 ea clX mtX l (PySem.W.callWith_K (first := [Value.ref a]) (h₀ := X.base) I.ok.mod.kin mtX.kp (thn (pa.run pos pins s1 σ H1 _ I1 q) fun ws s2 ⟨vs, H2, I2, rv, M, as, hM, r, z⟩ => ⟨I2.kIn, ?_⟩) hst hpl)
    exact cal.run (us := Value.ref a :: ws) (vs := V.ref a :: vs) S hk hj I2 (.cons rfl rv) hM r z
  · refine ro M0 H0 σ H ρ _ G ((Post.bind h).imp (Same.refl H) fun d q v H1 e1 r1 => ?_)
    obtain ⟨fs, rfl, q1⟩ := meth_obj q
    have r1' := r1
    rw [Rp] at r1'
    obtain ⟨a, dx, us, rfl, h1, h2, h3, h4⟩ := r1'
    refine ⟨a, dx, us, rfl, h1, lookup_no h3 C.no, ?_⟩
    have G1 := G.mono e1
    refine ra M0 H0 σ H1 ρ _ G1 ((Post.bind q1).imp e1 fun ds q2 vs H2 e2 r2 => ?_)
    exact ⟨Mx M0 σ ρ, .obj c fs :: ds, fun a z => Mx.alive (G1.mono e2) z, .cons (r1.mono e2) r2, q2.imp (e1.trans e2) fun a z => WantE.back (e1.trans e2) z⟩
theorem de_meth0 {pl : Sem Bool} {o : Expr} {m x : Str} {apos pos : Pos} {c : Nat} {fo : Env → Res D} {g : List D → Res D} (K : ClsOk Γ c x) (C : CalM Γ j c m g) (ho : DE Γ k X W o fo)
    (hk : 0 < k := by first | decide | omega) (hj : j ≤ k := by first | decide | omega)
    (ht : eval (.Call (.Attribute o m apos) [] [] pos) X.env = (do
      let r ← eval o X.env
      standAt apos.atName
      let (h, l) ← holding [r] (getMethod r m pl)
      callWith pos h l (backTo pos (starEach [] X.env)) (backToKw pos (keywordEach [] X.env))) := by rfl) : DE Γ k X W (.Call (.Attribute o m apos) [] [] pos) (E.meth c g fo E.nil) := fun S => by
  obtain ⟨to, po, ro⟩ := ho S
  obtain ⟨f, mt, cal⟩ := C.ex
  have clX : Cls X.K (Γ.cls c) := by rw [S.K]; exact K.cl
  have mtX : Meth X.K (Γ.cls c) m f := by rw [S.K]; exact mt
  refine ⟨fun σ H Q => to σ H fun x H1 => ∃ a dx us, x = V.ref a ∧ H1 a = some (.ins (Γ.cls c) dx us) ∧ us.lookup m = none ∧ RCal Γ W g (WantE Γ) [.ref a] σ H1 Q, ⟨fun pins s σ H Q I h => ?_⟩, fun M0 H0 σ H ρ Q G h => ?_⟩
  · refine PySem.W.methodCall_KW (pl := pl) (thn (po.run pins s σ H _ I h) fun u s1 ⟨x, H1, I1, rx, a, dx, us, ex, ea, l, M, as, hM, r, z⟩ => ?_) ht
    subst ex
    cases rx
    exact getmeth_ok I1 ea clX mtX l (PySem.W.callWith_K0 (first := [Value.ref a]) I1.kIn mtX.kp (cal.run (us := [Value.ref a]) (vs := [V.ref a]) S hk hj I1 (.cons rfl .nil) hM r z))
  · refine ro M0 H0 σ H ρ _ G ((Post.bind h).imp (Same.refl H) fun d q v H1 e1 r1 => ?_)
    obtain ⟨fs, rfl, q1⟩ := meth_obj q
    have r1' := r1
    rw [Rp] at r1'
    obtain ⟨a, dx, us, rfl, h1, h2, h3, h4⟩ := r1'
    refine ⟨a, dx, us, rfl, h1, lookup_no h3 C.no, Mx M0 σ ρ, [.obj c fs], fun a z => Mx.alive (G.mono e1) z, .cons r1 .nil, ?_⟩
    exact (show Post Γ W σ H (g [.obj c fs]) _ from q1).imp e1 fun a z => WantE.back e1 z
/-! ### the own operators of a class -/
def E.own2 (c : Nat) (g : List D → Res D) (f h : Env → Res D) : Env → Res D := fun ρ => (f ρ).bind fun x => (h ρ).bind fun y => match x, y with
  | .obj c1 _, .obj c2 _ => if c1 = c ∧ c2 = c then g [x, y] else .stuck
  | _, _ => .stuck
theorem own2_obj {c : Nat} {g : List D → Res D} {x y : D} {σ : St} {H : Hp} {Q : D → Prop}
    (h : Post Γ W σ H (match x, y with | .obj c1 _, .obj c2 _ => if c1 = c ∧ c2 = c then g [x, y] else .stuck | _, _ => .stuck) Q) : ∃ fs gs, x = .obj c fs ∧ y = .obj c gs ∧ Post Γ W σ H (g [x, y]) Q := by
  cases x <;> cases y <;> first | exact h.elim | skip
  dsimp only at h
  split at h
  · rename_i e
    exact ⟨_, _, by rw [e.1], by rw [e.2], h⟩
  · exact h.elim
theorem obj_at {M : Addr → Prop} {H : Hp} {c : Nat} {fs : List D} {v : V} (h : Rp Γ M H (.obj c fs) v) : ∃ a dx us, v = .ref a ∧ H a = some (.ins (Γ.cls c) dx us) ∧ us.map (·.1) = (Γ.fld c).take us.length ∧ RpL Γ M H fs (us.map (·.2)) := by
  rw [Rp] at h
  obtain ⟨a, dx, us, h1, h2, _, h4, h5⟩ := h
  exact ⟨a, dx, us, h1, h2, h4, h5⟩
/-- the class's function does not hand back NotImplemented -/
theorem cmpBack {pins : List (Addr × Obj)} {σ : St} {Q : VK} {v : Value} {s : Shared} (h : EP X pins σ Q v s) : PySem.W.CmpBack (EP X pins σ Q) v s := by
  obtain ⟨x, H, I, r, q⟩ := id h
  cases v <;> first | exact h | (cases x <;> first | (obtain ⟨t, e⟩ := r; cases e) | cases r)
theorem ins_at {pins : List (Addr × Obj)} {σ : St} {H : Hp} {s : Shared} {a C dx : Addr} {us : List (Str × V)} (I : Inv X pins σ H s) (h : H a = some (.ins C dx us)) : ∃ ox od, PySem.W.InstAt s.heap a ox C od := by
  obtain ⟨mA, O, _⟩ := ins_get I.hok h
  obtain ⟨od, J, _⟩ := O.look
  exact ⟨_, _, J⟩
theorem de_own2 {op : Operator} {m x : Str} {a b : Expr} {pos : Pos} {c : Nat} {f h : Env → Res D} {g : List D → Res D} (K : ClsOk Γ c x) (C : CalM Γ j c m g) (hm : PySem.dunder op.info.2 = m) (ha : DE Γ k X W a f) (hb : DE Γ k X W b h) (hk : 0 < k := by first | decide | omega) (hj : j ≤ k := by first | decide | omega) :
    DE Γ k X W (.BinOp a op b pos) (E.own2 c g f h) := fun S => by
  obtain ⟨ta, pa, ra⟩ := ha S
  obtain ⟨tb, pb, rb⟩ := hb S
  obtain ⟨fn, mt, cal⟩ := C.ex
  refine ⟨fun σ H Q => ta σ H fun x H1 => tb σ H1 fun y H2 => ∃ a dx us b dy ws, x = V.ref a ∧ y = V.ref b ∧ H2 a = some (.ins (Γ.cls c) dx us) ∧ H2 b = some (.ins (Γ.cls c) dy ws) ∧ RCal Γ W g (WantE Γ) [.ref a, .ref b] σ H2 Q, ⟨fun pins s σ H Q I z => ?_⟩, fun M0 H0 σ H ρ Q G q => ?_⟩
  · refine wpAny_BinOp (binT pa pb I (R := fun x y H2 => ∃ a dx us b dy ws, x = V.ref a ∧ y = V.ref b ∧ H2 a = some (.ins (Γ.cls c) dx us) ∧ H2 b = some (.ins (Γ.cls c) dy ws) ∧ RCal Γ W g (WantE Γ) [.ref a, .ref b] σ H2 Q) z fun v u s2 x y H2 I2 rx ry q => ?_)
    obtain ⟨p, dx, us, p2, dy, ws, rfl, rfl, h1, h2, M, as, hM, r, w⟩ := q
    cases rx
    cases ry
    obtain ⟨m2, F2⟩ := I2.fr
    obtain ⟨_, _, J⟩ := ins_at I2 h1
    obtain ⟨_, _, J2⟩ := ins_at I2 h2
    refine PySem.W.binop_K F2 I2.ok.mod.kin J J2.type (by rw [S.K]; exact K.sf) (by rw [S.K, hm]; exact mt.at_) (by rw [S.K]; exact mt.fn) ?_
    exact thn (cal.run (us := [Value.ref p, Value.ref p2]) (vs := [V.ref p, V.ref p2]) S hk hj I2 (.cons rfl (.cons rfl .nil)) hM r w) fun _ _ z => cmpBack z
  · refine ra M0 H0 σ H ρ _ G ((Post.bind q).imp (Same.refl H) fun d q1 v H1 e1 r1 => ?_)
    have G1 := G.mono e1
    refine rb M0 H0 σ H1 ρ _ G1 ((Post.bind q1).imp e1 fun d2 q2 v2 H2 e2 r2 => ?_)
    obtain ⟨fs, gs, rfl, rfl, q3⟩ := own2_obj q2
    obtain ⟨p, dx, us, rfl, h1, _⟩ := obj_at (r1.mono e2)
    obtain ⟨p2, dy, ws, rfl, h2, _⟩ := obj_at r2
    exact ⟨p, dx, us, p2, dy, ws, rfl, rfl, h1, h2, Mx M0 σ ρ, _, fun a z => Mx.alive (G1.mono e2) z, .cons (r1.mono e2) (.cons r2 .nil), q3.imp (e1.trans e2) fun a z => WantE.back (e1.trans e2) z⟩
theorem de_ownNeg {x : Str} {a : Expr} {pos : Pos} {c : Nat} {f : Env → Res D} {g : List D → Res D} (K : ClsOk Γ c x) (C : CalM Γ j c "__neg__" g) (ha : DE Γ k X W a f) (hk : 0 < k := by first | decide | omega) (hj : j ≤ k := by first | decide | omega) :
    DE Γ k X W (.UnaryOp .USub a pos) (E.meth c g f E.nil) := fun S => by
  obtain ⟨ta, pa, ra⟩ := ha S
  obtain ⟨fn, mt, cal⟩ := C.ex
  refine ⟨fun σ H Q => ta σ H fun x H1 => ∃ a dx us, x = V.ref a ∧ H1 a = some (.ins (Γ.cls c) dx us) ∧ RCal Γ W g (WantE Γ) [.ref a] σ H1 Q, ⟨fun pins s σ H Q I z => ?_⟩, fun M0 H0 σ H ρ Q G q => ?_⟩
  · refine PyProof.Rows.UnaryOp_ (thn (pa.run pins s σ H _ I z) fun v s1 ⟨y, H1, I1, ry, q⟩ => ?_)
    obtain ⟨p, dx, us, rfl, h1, M, as, hM, r, w⟩ := q
    cases ry
    obtain ⟨m2, F2⟩ := I1.fr
    obtain ⟨_, _, J⟩ := ins_at I1 h1
    refine PySem.W.ksp_neg F2 I1.ok.mod.kin J (by rw [S.K]; exact mt.at_) (by rw [S.K]; exact mt.fn) ?_
    exact cal.run (us := [Value.ref p]) (vs := [V.ref p]) S hk hj I1 (.cons rfl .nil) hM r w
  · refine ra M0 H0 σ H ρ _ G ((Post.bind q).imp (Same.refl H) fun d q1 v H1 e1 r1 => ?_)
    obtain ⟨fs, rfl, q2⟩ := meth_obj q1
    obtain ⟨p, dx, us, rfl, h1, _⟩ := obj_at r1
    exact ⟨p, dx, us, rfl, h1, Mx M0 σ ρ, _, fun a z => Mx.alive (G.mono e1) z, .cons r1 .nil, (show Post Γ W σ H (g [.obj c fs]) _ from q2).imp e1 fun a z => WantE.back e1 z⟩
/-! ### fields -/
def E.fld (c i : Nat) (f : Env → Res D) : Env → Res D := fun ρ => (f ρ).bind fun x => match x with
  | .obj c' fs => if c' = c then (match fs[i]? with | some d => .ok d | none => .stuck) else .stuck
  | _ => .stuck
theorem lookup_at : ∀ {us : List (Str × V)} {l : List Str} {i : Nat} {m : Str} {v : V}, us.map (·.1) = l.take us.length → l.Nodup → l[i]? = some m → (us.map (·.2))[i]? = some v → us.lookup m = some v
  | [], _, i, _, _, _, _, _, h => by simp at h
  | (n, u) :: us, l, i, m, v, e, nd, hl, h => by
    cases l with
    | nil => simp at hl
    | cons y ys =>
      simp only [List.map_cons, List.length_cons, List.take_succ_cons, List.cons.injEq] at e
      obtain ⟨rfl, e⟩ := e
      cases i with
      | zero =>
        simp at hl h
        subst hl
        subst h
        simp
      | succ i =>
        have hl' : ys[i]? = some m := by simpa using hl
        have h' : (us.map (·.2))[i]? = some v := by simpa using h
        have nd' := List.nodup_cons.mp nd
        rw [List.lookup_cons]
        have ne : (m == n) = false := beq_eq_false_iff_ne.mpr fun q => nd'.1 (by rw [← q]; exact List.mem_of_getElem? hl')
        rw [ne]
        exact lookup_at e nd'.2 hl' h'
structure FldOk (Γ : Gam) (c i : Nat) (m : Str) : Prop where
  at_ : (Γ.fld c)[i]? = some m
  nd : (Γ.fld c).Nodup
  no : NoAttr Γ.K (Γ.cls c) m
theorem de_fld {m x : Str} {a : Expr} {pos : Pos} {c i : Nat} {f : Env → Res D} (K : ClsOk Γ c x) (L : FldOk Γ c i m) (ha : DE Γ k X W a f) (hb : attributeBase a m X.env (eval a X.env) = eval a X.env := by rfl) : DE Γ k X W (.Attribute a m pos) (E.fld c i f) := fun S => by
  obtain ⟨ta, pa, ra⟩ := ha S
  refine ⟨_, pe_fld pa hb, fun M0 H0 σ H ρ Q G q => ?_⟩
  refine ra M0 H0 σ H ρ _ G ((Post.bind q).imp (Same.refl H) fun d q1 v H1 e1 r1 => ?_)
  cases d with
  | obj c' fs =>
    dsimp only at q1
    split at q1
    · rename_i e
      subst e
      obtain ⟨p, dx, us, rfl, h1, h2, h3⟩ := obj_at r1
      cases z : fs[i]? with
      | none => rw [z] at q1; exact q1.elim
      | some d =>
        rw [z] at q1
        obtain ⟨u, h4, h5⟩ := h3.get z
        refine ⟨p, Γ.cls c', dx, us, u, rfl, h1, by rw [S.K]; exact K.cl, by rw [S.K]; exact L.no, lookup_at h2 L.nd L.at_ h4, q1 u H1 e1 h5⟩
    · exact q1.elim
  | _ => exact q1.elim
end
set_option Elab.async false
set_option linter.all false
set_option maxRecDepth 100000
set_option maxHeartbeats 4000000
open PySem L2
/-! ### plain data compared -/
mutual
def toP : D → Option PyData
  | .non => some .none
  | .bl b => some (.bool b)
  | .int i => some (.int i)
  | .str x => some (.str x)
  | .tup ds => (toPs ds).map .tuple
  | .lst ds => (toPs ds).map .list
  | .obj _ _ => none
def toPs : List D → Option (List PyData)
  | [] => some []
  | d :: ds => match toP d, toPs ds with
    | some p, some ps => some (p :: ps)
    | _, _ => none
end
section
variable {Γ : Gam} {M : Addr → Prop} {H : Hp}
mutual
theorem toP_dp : ∀ (d : D) (v : V) (p : PyData), toP d = some p → Rp Γ M H d v → Dp Γ.K H v p
  | .non, v, p, e, r => by
    rw [toP] at e
    rw [Rp] at r
    cases e
    rw [r]
    exact .non
  | .bl b, v, p, e, r => by
    rw [toP] at e
    rw [Rp] at r
    cases e
    rw [r]
    exact .bl b
  | .int i, v, p, e, r => by
    rw [toP] at e
    rw [Rp] at r
    cases e
    rw [r]
    exact .int i
  | .str x, v, p, e, r => by
    rw [toP] at e
    rw [Rp] at r
    cases e
    rw [r]
    exact .str x
  | .tup ds, v, p, e, r => by
    rw [toP] at e
    rw [Rp] at r
    obtain ⟨a, vs, rfl, t, h⟩ := r
    cases q : toPs ds with
    | none => rw [q] at e; cases e
    | some ps =>
      rw [q] at e
      cases e
      exact .tup t.sq (toPs_dp ds vs ps q h)
  | .lst ds, v, p, e, r => by
    rw [toP] at e
    rw [Rp] at r
    obtain ⟨a, vs, rfl, t, h⟩ := r
    cases q : toPs ds with
    | none => rw [q] at e; cases e
    | some ps =>
      rw [q] at e
      cases e
      exact .lst t.sq (toPs_dp ds vs ps q h)
  | .obj c fs, v, p, e, r => by
    rw [toP] at e
    cases e
theorem toPs_dp : ∀ (ds : List D) (vs : List V) (ps : List PyData), toPs ds = some ps → RpL Γ M H ds vs → DpAll Γ.K H vs ps
  | [], vs, ps, e, r => by
    rw [toPs] at e
    rw [RpL] at r
    cases e
    rw [r]
    exact .nil
  | d :: ds, vs, ps, e, r => by
    rw [toPs] at e
    rw [RpL] at r
    obtain ⟨v, t, rfl, h1, h2⟩ := r
    cases q : toP d with
    | none => rw [q] at e; cases e
    | some p =>
      cases q2 : toPs ds with
      | none => rw [q, q2] at e; cases e
      | some ps' =>
        rw [q, q2] at e
        cases e
        exact .cons (toP_dp d v p q h1) (toPs_dp ds t ps' q2 h2)
end
end
def eqWith (neg : Bool) (x y : D) : Res D := match toP x, toP y with
  | some p, some q => if SeqAt.shaped p = true ∧ SeqAt.shaped q = true then .ok (.bl (if neg then !PyData.eqv p q else PyData.eqv p q)) else .stuck
  | _, _ => .stuck
def eqD : D → D → Res D := eqWith false
def neD : D → D → Res D := eqWith true
theorem eqWith_n (neg : Bool) (x y z) : eqWith neg x y ≠ .exc z := by
  unfold eqWith
  split
  · split <;> exact fun q => nomatch q
  · exact fun q => nomatch q
theorem eqD_n (x y z) : eqD x y ≠ .exc z := eqWith_n false x y z
theorem neD_n (x y z) : neD x y ≠ .exc z := eqWith_n true x y z
/-- scalars compared -/
def eqS : D → D → Res D
  | .int i, .int j => .ok (.bl (decide (i = j)))
  | .str x, .str y => .ok (.bl (decide (x = y)))
  | .bl x, .bl y => .ok (.bl (x == y))
  | _, _ => .stuck
def neS : D → D → Res D
  | .int i, .int j => .ok (.bl (!decide (i = j)))
  | .str x, .str y => .ok (.bl (!decide (x = y)))
  | .bl x, .bl y => .ok (.bl (!(x == y)))
  | _, _ => .stuck
theorem eqS_n (x y z) : eqS x y ≠ .exc z := by cases x <;> cases y <;> exact fun q => nomatch q
theorem neS_n (x y z) : neS x y ≠ .exc z := by cases x <;> cases y <;> exact fun q => nomatch q
def isN : D → Res D
  | .non => .ok (.bl true)
  | _ => .ok (.bl false)
def notN : D → Res D
  | .non => .ok (.bl false)
  | _ => .ok (.bl true)
section
variable {Γ : Gam} {k j : Nat} {X : Cx} {W : WX}
theorem od_eqD : OpD Γ (k + 1) X W (compareOp .Eq) eqD := fun S => by
  refine ⟨_, op_eqD (S.room (Nat.succ_pos k)).units, fun M H x y a b Q m r1 r2 h => ?_⟩
  unfold eqD eqWith at h
  cases q1 : toP a with
  | none => rw [q1] at h; exact h.elim
  | some p =>
    cases q2 : toP b with
    | none => rw [q1, q2] at h; exact h.elim
    | some q =>
      rw [q1, q2] at h
      dsimp only at h
      split at h
      · rename_i c
        refine ⟨p, q, ?_, ?_, c.1, c.2, h _ H (Same.refl H) (by rw [Rp] <;> rfl)⟩
        · rw [S.K]; exact toP_dp a x p q1 r1
        · rw [S.K]; exact toP_dp b y q q2 r2
      · exact h.elim
theorem od_neD : OpD Γ (k + 1) X W (compareOp .NotEq) neD := fun S => by
  refine ⟨_, op_neD (S.room (Nat.succ_pos k)).units, fun M H x y a b Q m r1 r2 h => ?_⟩
  unfold neD eqWith at h
  cases q1 : toP a with
  | none => rw [q1] at h; exact h.elim
  | some p =>
    cases q2 : toP b with
    | none => rw [q1, q2] at h; exact h.elim
    | some q =>
      rw [q1, q2] at h
      dsimp only at h
      split at h
      · rename_i c
        refine ⟨p, q, ?_, ?_, c.1, c.2, h _ H (Same.refl H) (by rw [Rp] <;> rfl)⟩
        · rw [S.K]; exact toP_dp a x p q1 r1
        · rw [S.K]; exact toP_dp b y q q2 r2
      · exact h.elim
theorem od_eqS : OpD Γ k X W (compareOp .Eq) eqS := fun S => by
  refine ⟨_, op_eq, fun M H x y a b Q m r1 r2 h => ?_⟩
  cases a <;> cases b <;> first | exact h.elim | skip
  all_goals (
    rw [Rp] at r1 r2
    subst r1
    subst r2
    refine ⟨rfl, ?_⟩
    refine h _ H (Same.refl H) ?_
    rw [Rp]
    simp [Bool.beq_eq_decide_eq])
theorem od_neS : OpD Γ k X W (compareOp .NotEq) neS := fun S => by
  refine ⟨_, op_ne, fun M H x y a b Q m r1 r2 h => ?_⟩
  cases a <;> cases b <;> first | exact h.elim | skip
  all_goals (
    rw [Rp] at r1 r2
    subst r1
    subst r2
    refine ⟨rfl, ?_⟩
    refine h _ H (Same.refl H) ?_
    rw [Rp]
    simp [Bool.beq_eq_decide_eq])
def D.isNon : D → Bool
  | .non => true
  | _ => false
theorem non_iff {M : Addr → Prop} {H : Hp} {d : D} {v : V} (r : Rp Γ M H d v) : decide (v = .non) = d.isNon := by
  cases d with
  | non => rw [Rp] at r; rw [r]; rfl
  | bl b => rw [Rp] at r; rw [r]; rfl
  | int i => rw [Rp] at r; rw [r]; rfl
  | str x => rw [Rp] at r; rw [r]; rfl
  | tup ds => rw [Rp] at r; obtain ⟨a, vs, e, _⟩ := r; rw [e]; rfl
  | lst ds => rw [Rp] at r; obtain ⟨a, vs, e, _⟩ := r; rw [e]; rfl
  | obj c fs => rw [Rp] at r; obtain ⟨a, dx, us, e, _⟩ := r; rw [e]; rfl
theorem de_isN {a : Expr} {f : Env → Res D} {i : Nat} {p pos : Pos} (ha : DE Γ k X W a f) : DE Γ k X W (.Compare a [.Is] [.Constant .none i p] pos) (E.op1 isN f) := fun S => by
  obtain ⟨ta, pa, ra⟩ := ha S
  refine ⟨_, pe_cmp (pc_isN pa) rfl, fun M0 H0 σ H ρ Q G h => ?_⟩
  refine ra M0 H0 σ H ρ _ G ((Post.bind h).imp (Same.refl H) fun d q v H1 e1 r1 => ?_)
  show Q (V.bl (decide (v = V.non))) H1
  rw [non_iff r1]
  cases d <;> exact q _ H1 e1 (by rw [Rp] <;> rfl)
theorem de_notN {a : Expr} {f : Env → Res D} {i : Nat} {p pos : Pos} (ha : DE Γ k X W a f) : DE Γ k X W (.Compare a [.IsNot] [.Constant .none i p] pos) (E.op1 notN f) := fun S => by
  obtain ⟨ta, pa, ra⟩ := ha S
  refine ⟨_, pe_cmp (pc_notN pa) rfl, fun M0 H0 σ H ρ Q G h => ?_⟩
  refine ra M0 H0 σ H ρ _ G ((Post.bind h).imp (Same.refl H) fun d q v H1 e1 r1 => ?_)
  show Q (V.bl (!decide (v = V.non))) H1
  rw [non_iff r1]
  cases d <;> exact q _ H1 e1 (by rw [Rp] <;> rfl)
/-! ### truth of tests -/
theorem WantB.back {H H' : Hp} {Q : Bool → Hp → Prop} {b : Bool} (e : Same H H') (h : WantB H Q b) : WantB H' Q b := fun H1 e1 => h H1 (e.trans e1)
def DW (Γ : Gam) (k : Nat) (X : Cx) (W : WX) (e : Expr) (f : Env → Res Bool) : Prop := Sit Γ k X W → ∃ tt : TT, PW X e tt ∧
  ∀ M0 H0 σ H ρ Q, Gd Γ M0 H0 σ H ρ → Post Γ W σ H (f ρ) (WantB H Q) → tt σ H Q
theorem dt_not {a : Expr} {f : Env → Res Bool} {pos : Pos} (ha : DT Γ k X W a f) : DT Γ k X W (.UnaryOp .Not a pos) (T.not f) := fun S => by
  obtain ⟨ta, pa, ra⟩ := ha S
  refine ⟨_, pt_not pa, fun M0 H0 σ H ρ Q G h => ?_⟩
  exact ra M0 H0 σ H ρ _ G ((Post.bind h).imp (Same.refl H) fun b q H1 e1 => q H1 e1)
theorem dw_and1 {a : Expr} {f : Env → Res Bool} {pos : Pos} (ha : DT Γ k X W a f) : DW Γ k X W (.BoolOp .And [a] pos) f := fun S => by
  obtain ⟨ta, pa, ra⟩ := ha S
  exact ⟨_, pw_and1 pa, ra⟩
theorem dw_or1 {a : Expr} {f : Env → Res Bool} {pos : Pos} (ha : DT Γ k X W a f) : DW Γ k X W (.BoolOp .Or [a] pos) f := fun S => by
  obtain ⟨ta, pa, ra⟩ := ha S
  exact ⟨_, pw_or1 pa, ra⟩
theorem dw_and {a b : Expr} {r : List Expr} {f g : Env → Res Bool} {pos : Pos} (ha : DT Γ k X W a f) (hb : DW Γ k X W (.BoolOp .And (b :: r) pos) g) : DW Γ k X W (.BoolOp .And (a :: b :: r) pos) (T.and f g) := fun S => by
  obtain ⟨ta, pa, ra⟩ := ha S
  obtain ⟨tb, pb, rb⟩ := hb S
  refine ⟨_, pw_and pa pb, fun M0 H0 σ H ρ Q G h => ?_⟩
  refine ra M0 H0 σ H ρ _ G ((Post.bind h).imp (Same.refl H) fun b q H1 e1 => ?_)
  cases b with
  | true => exact rb M0 H0 σ H1 ρ Q (G.mono e1) ((show Post Γ W σ H (g ρ) _ from q).imp e1 fun b z => z.back e1)
  | false => exact (show WantB H Q false from q) H1 e1
theorem dw_or {a b : Expr} {r : List Expr} {f g : Env → Res Bool} {pos : Pos} (ha : DT Γ k X W a f) (hb : DW Γ k X W (.BoolOp .Or (b :: r) pos) g) : DW Γ k X W (.BoolOp .Or (a :: b :: r) pos) (T.or f g) := fun S => by
  obtain ⟨ta, pa, ra⟩ := ha S
  obtain ⟨tb, pb, rb⟩ := hb S
  refine ⟨_, pw_or pa pb, fun M0 H0 σ H ρ Q G h => ?_⟩
  refine ra M0 H0 σ H ρ _ G ((Post.bind h).imp (Same.refl H) fun b q H1 e1 => ?_)
  cases b with
  | true => exact (show WantB H Q true from q) H1 e1
  | false => exact rb M0 H0 σ H1 ρ Q (G.mono e1) ((show Post Γ W σ H (g ρ) _ from q).imp e1 fun b z => z.back e1)
theorem dt_bool {e : Expr} {f : Env → Res Bool} (h : DW Γ k X W e f) : DT Γ k X W e f := fun S => by
  obtain ⟨ta, pa, ra⟩ := h S
  exact ⟨_, pa.pt, ra⟩
/-! ### and, or, not, conditional as values -/
def E.tv (f : Env → Res Bool) : Env → Res D := fun ρ => (f ρ).bind fun b => .ok (.bl b)
def E.and (f g : Env → Res D) : Env → Res D := fun ρ => (f ρ).bind fun x => match x with
  | .bl true => g ρ
  | .bl false => .ok (.bl false)
  | _ => .stuck
def E.or (f g : Env → Res D) : Env → Res D := fun ρ => (f ρ).bind fun x => match x with
  | .bl true => .ok (.bl true)
  | .bl false => g ρ
  | _ => .stuck
def E.not (f : Env → Res D) : Env → Res D := fun ρ => (f ρ).bind fun x => match x with
  | .bl b => .ok (.bl (!b))
  | _ => .stuck
def E.ite (c : Env → Res Bool) (f g : Env → Res D) : Env → Res D := fun ρ => (c ρ).bind fun b => if b = true then f ρ else g ρ
theorem de_one {op : BoolOp} {a : Expr} {f : Env → Res D} {pos : Pos} (ha : DE Γ k X W a f) : DE Γ k X W (.BoolOp op [a] pos) f := fun S => by
  obtain ⟨ta, pa, ra⟩ := ha S
  exact ⟨_, pe_one pa, ra⟩
theorem de_and {a b : Expr} {r : List Expr} {f g : Env → Res D} {pos : Pos} (ha : DE Γ k X W a f) (hb : DE Γ k X W (.BoolOp .And (b :: r) pos) g) : DE Γ k X W (.BoolOp .And (a :: b :: r) pos) (E.and f g) := fun S => by
  obtain ⟨ta, pa, ra⟩ := ha S
  obtain ⟨tb, pb, rb⟩ := hb S
  refine ⟨_, pe_and pa pb, fun M0 H0 σ H ρ Q G h => ?_⟩
  refine ra M0 H0 σ H ρ _ G ((Post.bind h).imp (Same.refl H) fun d q v H1 e1 r1 => ?_)
  cases d with
  | bl b =>
    rw [Rp] at r1
    cases b with
    | true => exact ⟨true, r1, rb M0 H0 σ H1 ρ Q (G.mono e1) ((show Post Γ W σ H (g ρ) _ from q).imp e1 fun b z => z.back e1)⟩
    | false => exact ⟨false, r1, (show WantE Γ _ H Q (.bl false) from q) _ H1 e1 (by rw [Rp])⟩
  | _ => exact (show False from q).elim
theorem de_or {a b : Expr} {r : List Expr} {f g : Env → Res D} {pos : Pos} (ha : DE Γ k X W a f) (hb : DE Γ k X W (.BoolOp .Or (b :: r) pos) g) : DE Γ k X W (.BoolOp .Or (a :: b :: r) pos) (E.or f g) := fun S => by
  obtain ⟨ta, pa, ra⟩ := ha S
  obtain ⟨tb, pb, rb⟩ := hb S
  refine ⟨_, pe_or pa pb, fun M0 H0 σ H ρ Q G h => ?_⟩
  refine ra M0 H0 σ H ρ _ G ((Post.bind h).imp (Same.refl H) fun d q v H1 e1 r1 => ?_)
  cases d with
  | bl b =>
    rw [Rp] at r1
    cases b with
    | true => exact ⟨true, r1, (show WantE Γ _ H Q (.bl true) from q) _ H1 e1 (by rw [Rp])⟩
    | false => exact ⟨false, r1, rb M0 H0 σ H1 ρ Q (G.mono e1) ((show Post Γ W σ H (g ρ) _ from q).imp e1 fun b z => z.back e1)⟩
  | _ => exact (show False from q).elim
theorem de_not {a : Expr} {f : Env → Res D} {pos : Pos} (ha : DE Γ k X W a f) : DE Γ k X W (.UnaryOp .Not a pos) (E.not f) := fun S => by
  obtain ⟨ta, pa, ra⟩ := ha S
  refine ⟨_, pe_not pa, fun M0 H0 σ H ρ Q G h => ?_⟩
  refine ra M0 H0 σ H ρ _ G ((Post.bind h).imp (Same.refl H) fun d q v H1 e1 r1 => ?_)
  cases d with
  | bl b =>
    rw [Rp] at r1
    exact ⟨b, r1, (show WantE Γ _ H Q (.bl (!b)) from q) _ H1 e1 (by rw [Rp])⟩
  | _ => exact (show False from q).elim
theorem de_ite {c a b : Expr} {t : Env → Res Bool} {f g : Env → Res D} {pos : Pos} (hc : DT Γ k X W c t) (ha : DE Γ k X W a f) (hb : DE Γ k X W b g) : DE Γ k X W (.IfExp c a b pos) (E.ite t f g) := fun S => by
  obtain ⟨tc, pc, rc⟩ := hc S
  obtain ⟨ta, pa, ra⟩ := ha S
  obtain ⟨tb, pb, rb⟩ := hb S
  refine ⟨_, pe_ifExp pc pa pb, fun M0 H0 σ H ρ Q G h => ?_⟩
  refine rc M0 H0 σ H ρ _ G ((Post.bind h).imp (Same.refl H) fun b q H1 e1 => ?_)
  cases b with
  | true => exact ra M0 H0 σ H1 ρ Q (G.mono e1) ((show Post Γ W σ H (f ρ) _ from q).imp e1 fun b z => z.back e1)
  | false => exact rb M0 H0 σ H1 ρ Q (G.mono e1) ((show Post Γ W σ H (g ρ) _ from q).imp e1 fun b z => z.back e1)
/-! ### statements -/
theorem lift_post {α : Type} {M0 : Bd} {H0 : Hp} {Dn : Ends} {r : Res α} {ρ : Env} {σ : St} {H : Hp} {K : α → Out} (G : Gd Γ M0 H0 σ H ρ) (h : PostS Γ M0 H0 W Dn (S.lift r ρ K)) : Post Γ W σ H r fun a => PostS Γ M0 H0 W Dn (K a) := by
  cases r with
  | stuck => exact h
  | ok a => exact h
  | exc x => exact fun cv dd H' e rx => h cv dd σ H' (G.mono e) rx
theorem ds_set (i : Nat) {x : Str} {e : Expr} {f : Env → Res D} {pos pos' : Pos} (nd : X.N.Nodup) (hN : X.N[i]? = some x := by rfl) (hx : Loc X.env.scope x := by first | exact Or.inl rfl | exact Or.inr rfl) (he : DE Γ k X W e f)
    (hs : swapsWith e (some (.Name x pos')) pos.line X.env = pure false := by rfl) (hf : X.fn x = true ∨ X.env.scope.names.lookup x = some .local := by first | exact .inl rfl | exact .inr rfl) : DS Γ k X W (.Assign [.Name x pos'] e pos) (S.set i f) := fun St => by
  obtain ⟨te, pe, re⟩ := he St
  refine ⟨_, ps_set (i := i) nd hN hx pe hs hf, fun M0 H0 σ H ρ Dn G h => ?_⟩
  refine re M0 H0 σ H ρ _ G ((lift_post G h).imp (Same.refl H) fun d q v H1 e1 r1 => ?_)
  split at q
  · rename_i hi
    exact q _ _ (G.set_val hi e1 r1)
  · exact q.elim
theorem ds_setF (i : Nat) {x : Str} {e : Expr} {f : Env → Res (List D)} {pos pos' : Pos} (nd : X.N.Nodup) (hN : X.N[i]? = some x := by rfl) (hx : Loc X.env.scope x := by first | exact Or.inl rfl | exact Or.inr rfl) (he : DF Γ k X W e f)
    (hs : swapsWith e (some (.Name x pos')) pos.line X.env = pure false := by rfl) (hf : X.fn x = true ∨ X.env.scope.names.lookup x = some .local := by first | exact .inl rfl | exact .inr rfl) : DS Γ k X W (.Assign [.Name x pos'] e pos) (S.setF i f) := fun St => by
  obtain ⟨te, pe, re⟩ := he St
  refine ⟨_, ps_set (i := i) nd hN hx pe hs hf, fun M0 H0 σ H ρ Dn G h => ?_⟩
  refine re M0 H0 σ H ρ _ G ((lift_post G h).imp (Same.refl H) fun ds q p vs H1 h0 e1 h1 r1 => ?_)
  split at q
  · rename_i hi
    exact q _ _ (G.set_own hi e1 h0 h1 r1)
  · exact q.elim
theorem ds_expr {e : Expr} {f : Env → Res D} {pos : Pos} (he : DE Γ k X W e f) (hs : swapsWith e none pos.line X.env = pure false := by rfl) : DS Γ k X W (.Expr e pos) (S.expr f) := fun St => by
  obtain ⟨te, pe, re⟩ := he St
  refine ⟨_, ps_expr pe hs, fun M0 H0 σ H ρ Dn G h => ?_⟩
  exact re M0 H0 σ H ρ _ G ((lift_post G h).imp (Same.refl H) fun d q v H1 e1 r1 => q _ _ (G.mono e1))
theorem own_sub {M0 : Bd} {σ : St} {H1 : Hp} {ρ : Env} {d : D} {v : V} (r : Rp Γ (Mx M0 σ ρ) H1 d v) : Rp Γ M0.M H1 d v := Rp.imp (.weak fun a z => .inl z) d v r
theorem ds_ret {e : Expr} {f : Env → Res D} {pos : Pos} (he : DE Γ k X W e f) : DS Γ k X W (.Return (some e) pos) (S.ret f) := fun St => by
  obtain ⟨te, pe, re⟩ := he St
  refine ⟨_, ps_ret pe, fun M0 H0 σ H ρ Dn G h => ?_⟩
  exact re M0 H0 σ H ρ _ G ((lift_post G h).imp (Same.refl H) fun d q v H1 e1 r1 => q _ _ (G.ext.trans e1) (own_sub r1))
theorem ds_retF {e : Expr} {f : Env → Res (List D)} {pos : Pos} (he : DF Γ k X W e f) : DS Γ k X W (.Return (some e) pos) (S.retF f) := fun St => by
  obtain ⟨te, pe, re⟩ := he St
  refine ⟨_, ps_ret pe, fun M0 H0 σ H ρ Dn G h => ?_⟩
  refine re M0 H0 σ H ρ _ G ((lift_post G h).imp (Same.refl H) fun ds q p vs H1 h0 e1 h1 r1 => ?_)
  refine q p vs H1 ?_ (G.ext.trans e1) h1 (RpL.imp (.weak fun a z => z.elim (fun z => .inl (.inl z)) .inr) _ _ r1)
  cases z : H0 p with
  | none => rfl
  | some o => rw [G.ext p o z] at h0; cases h0
theorem ds_retN {pos : Pos} : DS Γ k X W (.Return none pos) S.retN := fun St =>
  ⟨_, ps_retN, fun M0 H0 σ H ρ Dn G h => h _ H G.ext (by rw [Rp])⟩
/-- return of a list that a slot owns -/
theorem ds_retO (i : Nat) {x : Str} {p pos : Pos} (hN : X.N[i]? = some x := by rfl) (hv : Vis X.env.scope x := by first | exact Or.inl rfl | exact Or.inr (Or.inl rfl) | exact Or.inr (Or.inr rfl)) (hd : (x == ("__debug__" : Str)) = false := by decide)
    (hcd : (x == ("__classdict__" : Str)) = false := by decide) : DS Γ k X W (.Return (some (.Name x p)) pos) (S.retO i) := fun St => by
  refine ⟨_, ps_ret (pe_var hN hv hd hcd), fun M0 H0 σ H ρ Dn G h => ?_⟩
  unfold S.retO at h
  cases q : ρ[i]? with
  | none => rw [q] at h; exact h.elim
  | some c =>
    rw [q] at h
    cases c with
    | own ds =>
      obtain ⟨a, vs, e1, e2, r⟩ := G.cel i _ q
      refine ⟨.ref a, e1, h a vs H (G.new i a ⟨_, q, rfl, e1⟩) G.ext e2 (RpL.imp (.weak fun b z => z.elim .inl fun z => .inr ⟨i, _, q, rfl, by rw [z]; exact e1⟩) _ _ r)⟩
    | no => exact h.elim
    | val d => exact h.elim
    | ins c fs => exact h.elim
theorem ds_ite {c : Expr} {a b : List Stmt} {t : Env → Res Bool} {f g : Env → Out} {pos : Pos} (hc : DT Γ k X W c t) (ha : DSs Γ k X W a f) (hb : DSs Γ k X W b g) : DS Γ k X W (.If c a b pos) (S.ite t f g) := fun St => by
  obtain ⟨tc, pc, rc⟩ := hc St
  obtain ⟨ta, pa, ra⟩ := ha St
  obtain ⟨tb, pb, rb⟩ := hb St
  refine ⟨_, ps_if pc pa pb, fun M0 H0 σ H ρ Dn G h => ?_⟩
  refine rc M0 H0 σ H ρ _ G ((lift_post G h).imp (Same.refl H) fun b q H1 e1 => ?_)
  cases b with
  | true => exact ra M0 H0 σ H1 ρ Dn (G.mono e1) q
  | false => exact rb M0 H0 σ H1 ρ Dn (G.mono e1) q
theorem ds_pass {pos : Pos} : DS Γ k X W (.Pass pos) S.skip := fun St => ⟨_, ps_pass, fun M0 H0 σ H ρ Dn G h => h σ H G⟩
theorem ds_break {pos : Pos} : DS Γ k X W (.Break pos) S.brk := fun St => ⟨_, ps_break, fun M0 H0 σ H ρ Dn G h => h σ H G⟩
theorem ds_continue {pos : Pos} : DS Γ k X W (.Continue pos) S.cnt := fun St => ⟨_, ps_continue, fun M0 H0 σ H ρ Dn G h => h σ H G⟩
theorem dss_nil : DSs Γ k X W [] S.skip := fun St => ⟨_, pss_nil, fun M0 H0 σ H ρ Dn G h => h σ H G⟩
theorem seq_post {M0 : Bd} {H0 : Hp} {Dn : Ends} {ts : TS} {f g : Env → Out} {ρ : Env} (rg : ∀ M0 H0 σ H ρ D, Gd Γ M0 H0 σ H ρ → PostS Γ M0 H0 W D (g ρ) → ts D σ H) (h : PostS Γ M0 H0 W Dn (S.seq f g ρ)) : PostS Γ M0 H0 W { Dn with nx := ts Dn } (f ρ) := by
  unfold S.seq at h
  cases q : f ρ with
  | next ρ' =>
    rw [q] at h
    exact fun σ H G => rg M0 H0 σ H ρ' Dn G h
  | stuck => rw [q] at h; exact h
  | ret d => rw [q] at h; exact h
  | retF d => rw [q] at h; exact h
  | exc x ρ' => rw [q] at h; exact h
  | brk ρ' => rw [q] at h; exact h
  | cnt ρ' => rw [q] at h; exact h
theorem dss_cons {s : Stmt} {r : List Stmt} {f g : Env → Out} (hs : DS Γ k X W s f) (hr : DSs Γ k X W r g) : DSs Γ k X W (s :: r) (S.seq f g) := fun St => by
  obtain ⟨ts, ps, rs⟩ := hs St
  obtain ⟨tr, pr, rr⟩ := hr St
  exact ⟨_, pss_cons ps pr, fun M0 H0 σ H ρ Dn G h => rs M0 H0 σ H ρ _ G (seq_post rr h)⟩
theorem dss_one {s : Stmt} {f : Env → Out} (hs : DS Γ k X W s f) : DSs Γ k X W [s] f := fun St => by
  obtain ⟨ts, ps, rs⟩ := hs St
  exact ⟨_, pss_one ps, rs⟩
/-! ### while -/
theorem ds_while (n : Env → Nat) {c : Expr} {body : List Stmt} {t : Env → Res Bool} {b : Env → Out} {pos : Pos} (hc : DT Γ k X W c t) (hb : DSs Γ k X W body b) : DS Γ k X W (.While c body [] pos) (S.whil n t b) := fun St => by
  obtain ⟨tc, pc, rc⟩ := hc St
  obtain ⟨tb, pb, rb⟩ := hb St
  refine ⟨_, ps_while St.pas pc pb, fun M0 H0 σ H ρ Dn G h => ?_⟩
  refine ⟨fun m σ H => ∃ ρ, Gd Γ M0 H0 σ H ρ ∧ PostS Γ M0 H0 W Dn (S.whileN t b m ρ), ⟨n ρ, ρ, G, h⟩, fun m σ H ⟨ρ, G, h⟩ => ?_⟩
  cases m with
  | zero => exact h.elim
  | succ m =>
    refine rc M0 H0 σ H ρ _ G ((lift_post G h).imp (Same.refl H) fun x q H1 e1 => ?_)
    cases x with
    | false => exact (show PostS Γ M0 H0 W Dn (.next ρ) from q) σ H1 (G.mono e1)
    | true =>
      rw [if_pos rfl]
      rw [if_pos rfl] at q
      refine ⟨fun σ' H' => ∃ ρ', Gd Γ M0 H0 σ' H' ρ' ∧ PostS Γ M0 H0 W Dn (S.whileN t b m ρ'), fun σ' H' ⟨ρ', G', h'⟩ => ⟨m, Nat.lt_succ_self m, ρ', G', h'⟩, ?_⟩
      refine rb M0 H0 σ H1 ρ _ (G.mono e1) ?_
      cases z : b ρ with
      | next ρ' => rw [z] at q; exact fun σ' H' G' => ⟨ρ', G', q⟩
      | cnt ρ' => rw [z] at q; exact fun σ' H' G' => ⟨ρ', G', q⟩
      | brk ρ' => rw [z] at q; exact q
      | stuck => rw [z] at q; exact q
      | ret d => rw [z] at q; exact q
      | retF d => rw [z] at q; exact q
      | exc x ρ' => rw [z] at q; exact q
end
set_option Elab.async false
set_option linter.all false
set_option maxRecDepth 100000
set_option maxHeartbeats 4000000
open PySem L2
/-! ### what is walked -/
def WantI (Γ : Gam) (M : Addr → Prop) (H : Hp) (R : It → Hp → Prop) (ds : List D) : Prop := ∀ (J : It) (H1 : Hp) (G : Hp → Prop) (Y : Nat → Hp → V → Hp → Prop), Same H H1 → Walk J ds.length G Y →
  (∀ (M' : Addr → Prop) (H' : Hp), Imp M M' H1 H' → G H' ∧ ∀ i x H2, i < ds.length → Y i H' x H2 → Same H' H2 ∧ ∃ d, ds[i]? = some d ∧ Rp Γ M' H2 d x) → R J H1
theorem WantI.back {Γ : Gam} {M : Addr → Prop} {H H' : Hp} {R : It → Hp → Prop} {ds : List D} (e : Same H H') (h : WantI Γ M H R ds) : WantI Γ M H' R ds := fun J H1 G Y e1 w z => h J H1 G Y (e.trans e1) w z
def DI (Γ : Gam) (k : Nat) (X : Cx) (W : WX) (tg e : Expr) (f : Env → Res (List D)) : Prop := Sit Γ k X W → ∃ wi : TI, PI X tg e wi ∧
  ∀ M0 H0 σ H ρ R, Gd Γ M0 H0 σ H ρ → Post Γ W σ H (f ρ) (WantI Γ (Mx M0 σ ρ) H R) → wi σ H R
/-- a target: an item is stored (M: what the item avoids) -/
def DG (Γ : Gam) (k : Nat) (X : Cx) (W : WX) (tg : Expr) (f : D → Env → Option Env) : Prop := Sit Γ k X W → ∃ g : TG, PG X tg g ∧
  ∀ M0 H0 σ H ρ (M : Addr → Prop) (d : D) (v : V) (Q : St → Hp → Prop), Gd Γ M0 H0 σ H ρ → (∀ a, Mx M0 σ ρ a → M a) → Rp Γ M H d v → (∃ ρ', f d ρ = some ρ' ∧ ∀ σ' H', Gd Γ M0 H0 σ' H' ρ' → Same H H' → (∀ a, Mx M0 σ' ρ' a → M a) → Q σ' H') → g v σ H Q
def DGs (Γ : Gam) (k : Nat) (X : Cx) (W : WX) (tgs : List Expr) (f : List D → Env → Option Env) : Prop := Sit Γ k X W → ∃ g : TGs, PGs X tgs g ∧
  ∀ M0 H0 σ H ρ (M : Addr → Prop) (ds : List D) (vs : List V) (Q : St → Hp → Prop), Gd Γ M0 H0 σ H ρ → (∀ a, Mx M0 σ ρ a → M a) → RpL Γ M H ds vs → (∃ ρ', f ds ρ = some ρ' ∧ ∀ σ' H', Gd Γ M0 H0 σ' H' ρ' → Same H H' → (∀ a, Mx M0 σ' ρ' a → M a) → Q σ' H') → g vs σ H Q
section
variable {Γ : Gam} {k j : Nat} {X : Cx} {W : WX}
theorem dg_name (i : Nat) {x : Str} {pos : Pos} (nd : X.N.Nodup) (hi : X.N[i]? = some x := by rfl) (hx : Loc X.env.scope x := by first | exact Or.inl rfl | exact Or.inr rfl) (hf : X.fn x = true ∨ X.env.scope.names.lookup x = some .local := by first | exact .inl rfl | exact .inr rfl) :
    DG Γ k X W (.Name x pos) (S.tgt i) := fun St => by
  refine ⟨_, pg_name nd hi hx hf, fun M0 H0 σ H ρ M d v Q G hm r h => ?_⟩
  obtain ⟨ρ', e, h⟩ := h
  unfold S.tgt at e
  split at e
  · rename_i hi
    cases e
    refine h _ _ (G.set_val hi (Same.refl H) (Rp.imp (.weak hm) d v r)) (Same.refl H) fun a z => hm a ?_
    rcases z with z | ⟨j, z⟩
    · exact .inl z
    · exact .inr ⟨j, (own_set_val z).1⟩
  · cases e
theorem dgs_nil : DGs Γ k X W [] S.gnil := fun St => by
  refine ⟨_, pgs_nil, fun M0 H0 σ H ρ M ds vs Q G hm r h => ?_⟩
  obtain ⟨ρ', e, h⟩ := h
  cases ds with
  | nil =>
    cases e
    rw [RpL] at r
    exact ⟨r, h σ H G (Same.refl H) hm⟩
  | cons d ds => cases e
theorem dgs_cons {e : Expr} {es : List Expr} {g : D → Env → Option Env} {f : List D → Env → Option Env} (hd : DG Γ k X W e g) (ht : DGs Γ k X W es f)
    (hs : (assignEach (e :: es) X.env).map (·.2) = assign e X.env :: (assignEach es X.env).map (·.2) := by rfl) : DGs Γ k X W (e :: es) (S.gcons g f) := fun St => by
  obtain ⟨g1, p1, r1⟩ := hd St
  obtain ⟨g2, p2, r2⟩ := ht St
  refine ⟨_, pgs_cons p1 p2 hs, fun M0 H0 σ H ρ M ds vs Q G hm r h => ?_⟩
  obtain ⟨ρ', e, h⟩ := h
  cases ds with
  | nil => cases e
  | cons d ds =>
    rw [RpL] at r
    obtain ⟨v, t, rfl, q1, q2⟩ := r
    unfold S.gcons at e
    dsimp only at e
    cases z : g d ρ with
    | none => rw [z] at e; cases e
    | some ρ1 =>
      rw [z] at e
      exact ⟨v, t, rfl, r1 M0 H0 σ H ρ M d v _ G hm q1 ⟨ρ1, z, fun σ1 H1 G1 s1 hm1 => r2 M0 H0 σ1 H1 ρ1 M ds t Q G1 hm1 (q2.mono s1) ⟨ρ', e, fun σ2 H2 G2 s2 => h σ2 H2 G2 (s1.trans s2)⟩⟩⟩
theorem dg_tup {es : List Expr} {c : Nat} {f : List D → Env → Option Env} {n : Nat} {pos : Pos} (hs : DGs Γ k X W es f) (hk : 0 < k := by first | decide | omega) (hn : (assignEach es X.env).length = n := by rfl) (hst : (assignEach es X.env).findIdx? (·.1) = none := by rfl) :
    DG Γ k X W (.Tuple es c pos) (S.gtup n f) := fun St => by
  obtain ⟨g, pg, rg⟩ := hs St
  refine ⟨_, pg_tup (St.calm hk) pg hn hst, fun M0 H0 σ H ρ M d v Q G hm r h => ?_⟩
  obtain ⟨ρ', e, h⟩ := h
  cases d with
  | tup ds =>
    rw [Rp] at r
    obtain ⟨a, vs, rfl, t, r⟩ := r
    unfold S.gtup at e
    dsimp only at e
    split at e
    · rename_i hl
      exact ⟨a, vs, rfl, by rw [St.K]; exact t.sq, by rw [r.length, hl], rg M0 H0 σ H ρ M ds vs Q G hm r ⟨ρ', e, h⟩⟩
    · cases e
  | _ => cases e
theorem ds_asg {tg e : Expr} {g : D → Env → Option Env} {f : Env → Res D} {pos : Pos} (hg : DG Γ k X W tg g) (he : DE Γ k X W e f) (hs : swapsWithSole [tg] e pos.line X.env = pure false := by rfl) (hw : swappedStores [tg] e X.env = pure none := by rfl) (hes : (assignEach [tg] X.env).map (·.2) = [assign tg X.env] := by rfl) :
    DS Γ k X W (.Assign [tg] e pos) (S.asg g f) := fun St => by
  obtain ⟨te, pe, re⟩ := he St
  obtain ⟨gt, pg, rg⟩ := hg St
  refine ⟨_, ps_asg pe pg hs hw hes, fun M0 H0 σ H ρ Dn G h => ?_⟩
  refine re M0 H0 σ H ρ _ G ((lift_post G h).imp (Same.refl H) fun d q v H1 e1 r1 => ?_)
  refine rg M0 H0 σ H1 ρ _ d v _ (G.mono e1) (fun _ z => z) r1 ?_
  cases z : g d ρ with
  | none => rw [z] at q; exact q.elim
  | some ρ' => rw [z] at q; exact ⟨ρ', rfl, fun σ' H' G' _ _ => q σ' H' G'⟩
/-- the loop's ground: what the slots do not own -/
noncomputable def ground (M0 : Bd) (σ : St) (ρ : Env) (H : Hp) : Hp := fun a => open Classical in if ∃ i, OwnAt σ ρ i a then none else H a
theorem ground_some {M0 : Bd} {σ : St} {ρ : Env} {H : Hp} {a : Addr} {o : HO} (h : ground M0 σ ρ H a = some o) : H a = some o ∧ ¬ ∃ i, OwnAt σ ρ i a := by
  unfold ground at h
  split at h
  · cases h
  · rename_i z
    exact ⟨h, z⟩
theorem ground_own {M0 : Bd} {σ : St} {ρ : Env} {H : Hp} {a : Addr} {i : Nat} (h : OwnAt σ ρ i a) : ground M0 σ ρ H a = none := by
  unfold ground
  rw [if_pos ⟨i, h⟩]
theorem ground_not {M0 : Bd} {σ : St} {ρ : Env} {H : Hp} {a : Addr} (h : ¬ ∃ i, OwnAt σ ρ i a) : ground M0 σ ρ H a = H a := by
  unfold ground
  rw [if_neg h]
theorem Gd.down {M0 : Bd} {H0 : Hp} {σ : St} {H : Hp} {ρ : Env} (G : Gd Γ M0 H0 σ H ρ) : Gd Γ M0 (ground M0 σ ρ H) σ H ρ := by
  refine ⟨G.len, fun a o h => (ground_some h).1, fun a h => ?_, G.cel, fun i p h => ground_own h, G.inj⟩
  rw [ground_not (fun ⟨i, z⟩ => G.m0 a h (G.new i a z))]
  exact fun z => Mx.alive G (.inl h) z
theorem ground_sup {M0 : Bd} {H0 : Hp} {σ : St} {H : Hp} {ρ : Env} (G : Gd Γ M0 H0 σ H ρ) : Same H0 (ground M0 σ ρ H) := fun a o h => by
  rw [ground_not (fun ⟨i, z⟩ => by rw [G.new i a z] at h; cases h)]
  exact G.ext a o h
theorem Gd.up {M0 : Bd} {H0 H0' : Hp} {σ : St} {H : Hp} {ρ : Env} (e : Same H0 H0') (m : ∀ a, M0.M a → H0 a ≠ none) (G : Gd Γ M0 H0' σ H ρ) : Gd Γ M0 H0 σ H ρ :=
  ⟨G.len, e.trans G.ext, m, G.cel, fun i p h => (by
    cases z : H0 p with
    | none => rfl
    | some o => have h1 := G.new i p h; rw [e p o z] at h1; cases h1), G.inj⟩
theorem PostS.down {M0 : Bd} {H0 H0' : Hp} {Dn : Ends} {o : Out} (e : Same H0 H0') (m : ∀ a, M0.M a → H0 a ≠ none) (h : PostS Γ M0 H0 W Dn o) : PostS Γ M0 H0' W Dn o := by
  cases o with
  | stuck => exact h
  | next ρ => exact fun σ H G => h σ H (G.up e m)
  | ret d => exact fun v H e1 r => h v H (e.trans e1) r
  | retF ds =>
    intro p vs H h0 e1 h1 r
    refine h p vs H ?_ (e.trans e1) h1 r
    cases z : H0 p with
    | none => rfl
    | some o => rw [e p o z] at h0; cases h0
  | exc x ρ => exact fun cv dd σ H G r => h cv dd σ H (G.up e m) r
  | brk ρ => exact fun σ H G => h σ H (G.up e m)
  | cnt ρ => exact fun σ H G => h σ H (G.up e m)
/-- from the loop's start to a turn of it -/
theorem turn_imp {M0 : Bd} {H0 : Hp} {σ σ' : St} {H H' : Hp} {ρ ρ' : Env} (G : Gd Γ M0 H0 σ H ρ) (G' : Gd Γ M0 (ground M0 σ ρ H) σ' H' ρ') : Imp (Mx M0 σ ρ) (Mx M0 σ' ρ') H H' := fun a o h n => by
  have hg : ground M0 σ ρ H a = some o := by
    rw [ground_not fun z => n (.inr z)]
    exact h
  refine ⟨fun z => ?_, G'.ext a o hg⟩
  rcases z with z | ⟨i, z⟩
  · exact n (.inl z)
  · rw [G'.new i a z] at hg
    cases hg
theorem ds_for {tg e : Expr} {body : List Stmt} {f : Env → Res (List D)} {g : D → Env → Option Env} {b : Env → Out} {pos : Pos} (hi : DI Γ k X W tg e f) (hg : DG Γ k X W tg g) (hb : DSs Γ k X W body b) (hk : 0 < k := by first | decide | omega)
    (hs : ∀ x, foldedSetIterable e X.env x = pure x := by intro _; rfl) : DS Γ k X W (.For tg e body [] pos) (S.forE f g b) := fun St => by
  obtain ⟨wi, pi, ri⟩ := hi St
  obtain ⟨gt, pg, rg⟩ := hg St
  obtain ⟨tb, pb, rb⟩ := hb St
  refine ⟨_, ps_for St.pas (St.calm hk) pi pg pb hs, fun M0 H0 σ H ρ Dn G h => ?_⟩
  refine ri M0 H0 σ H ρ _ G ((lift_post G h).imp (Same.refl H) fun ds q J H1 GG Y e1 w z => ?_)
  have G1 := G.mono e1
  have dn := G1.down
  have sup := ground_sup G1
  refine for_it w (fun i σ' H' => ∃ ρ', Gd Γ M0 (ground M0 σ ρ H1) σ' H' ρ' ∧ PostS Γ M0 H0 W Dn (S.forL g b (ds.drop i) ρ')) ⟨ρ, dn, q⟩ ?_ ?_ ?_
  · rintro i σ' H' _ ⟨ρ', G', _⟩
    exact (z _ _ (turn_imp G1 G')).1
  · rintro i x σ' H' H2 hi ⟨ρ', G', q'⟩ y
    obtain ⟨s1, d, hd, r⟩ := (z _ _ (turn_imp G1 G')).2 i x H2 hi y
    have ed : ds.drop i = d :: ds.drop (i + 1) := by
      rw [List.drop_eq_getElem_cons hi]
      rw [List.getElem?_eq_getElem hi] at hd
      cases hd
      rfl
    rw [ed] at q'
    refine rg M0 _ σ' H2 ρ' _ d x _ (G'.mono s1) (fun _ z => z) r ?_
    unfold S.forL at q'
    cases e2 : g d ρ' with
    | none => rw [e2] at q'; exact q'.elim
    | some ρ2 =>
      rw [e2] at q'
      refine ⟨ρ2, rfl, fun σ2 H3 G2 _ _ => rb M0 _ σ2 H3 ρ2 _ G2 ?_⟩
      dsimp only at q'
      cases e3 : b ρ2 with
      | next ρ3 => rw [e3] at q'; exact fun σ4 H4 G4 => ⟨ρ3, G4, q'⟩
      | cnt ρ3 => rw [e3] at q'; exact fun σ4 H4 G4 => ⟨ρ3, G4, q'⟩
      | brk ρ3 => rw [e3] at q'; exact fun σ4 H4 G4 => q' σ4 H4 (G4.up sup G.m0)
      | stuck => rw [e3] at q'; exact q'.elim
      | ret d => rw [e3] at q'; exact PostS.down (o := .ret d) sup G.m0 q'
      | retF d => rw [e3] at q'; exact PostS.down (o := .retF d) sup G.m0 q'
      | exc x ρ3 => rw [e3] at q'; exact PostS.down (o := .exc x ρ3) sup G.m0 q'
  · rintro σ' H' ⟨ρ', G', q'⟩
    rw [List.drop_length] at q'
    exact q' σ' H' (G'.up sup G.m0)
end
set_option Elab.async false
set_option linter.all false
set_option maxRecDepth 100000
set_option maxHeartbeats 4000000
open PySem L2
/-! ### lists and tuples that are read -/
/-- l: a list (else a tuple) -/
def Sq (K : PySem.W.Frag) (l : Bool) (H : Hp) (p : Addr) (vs : List V) : Prop := if l = true then SqL K H p vs else SqT K H p vs
def WantQ (Γ : Gam) (l : Bool) (M : Addr → Prop) (H : Hp) (Q : VK) (ds : List D) : Prop := ∀ p vs H', Same H H' → Sq Γ.K l H' p vs → RpL Γ M H' ds vs → Q (.ref p) H'
/-- a tracked list -/
def WantL (Γ : Gam) (M : Addr → Prop) (H : Hp) (Q : VK) (ds : List D) : Prop := ∀ p vs H', Same H H' → H' p = some (.lst vs) → RpL Γ M H' ds vs → Q (.ref p) H'
def DQ (Γ : Gam) (k : Nat) (X : Cx) (W : WX) (l : Bool) (e : Expr) (f : Env → Res (List D)) : Prop := Sit Γ k X W → ∃ te : TE, PE X e te ∧
  ∀ M0 H0 σ H ρ Q, Gd Γ M0 H0 σ H ρ → Post Γ W σ H (f ρ) (WantQ Γ l (Mx M0 σ ρ) H Q) → te σ H Q
def DL (Γ : Gam) (k : Nat) (X : Cx) (W : WX) (e : Expr) (f : Env → Res (List D)) : Prop := Sit Γ k X W → ∃ te : TE, PE X e te ∧
  ∀ M0 H0 σ H ρ Q, Gd Γ M0 H0 σ H ρ → Post Γ W σ H (f ρ) (WantL Γ (Mx M0 σ ρ) H Q) → te σ H Q
theorem WantQ.back {Γ : Gam} {l : Bool} {M : Addr → Prop} {H H' : Hp} {Q : VK} {d : List D} (e : Same H H') (h : WantQ Γ l M H Q d) : WantQ Γ l M H' Q d := fun p vs H1 e1 => h p vs H1 (e.trans e1)
theorem WantL.back {Γ : Gam} {M : Addr → Prop} {H H' : Hp} {Q : VK} {d : List D} (e : Same H H') (h : WantL Γ M H Q d) : WantL Γ M H' Q d := fun p vs H1 e1 => h p vs H1 (e.trans e1)
theorem Sq.mono {K : PySem.W.Frag} {l : Bool} {H H' : Hp} {p : Addr} {vs : List V} (e : Same H H') (h : Sq K l H p vs) : Sq K l H' p vs := by
  unfold Sq at h ⊢
  split
  · rename_i z
    rw [if_pos z] at h
    exact e.seq h
  · rename_i z
    rw [if_neg z] at h
    rcases h with (h | ⟨o, h⟩) | h
    · exact .inl (.inl (e _ _ h))
    · exact .inl (.inr ⟨o, e _ _ h⟩)
    · exact .inr h
namespace Z
def own (i : Nat) : Env → Res (List D) := fun ρ => match ρ[i]? with
  | some (.own ds) => .ok ds
  | _ => .stuck
def lst (f : Env → Res D) : Env → Res (List D) := fun ρ => (f ρ).bind fun d => match d with
  | .lst ds => .ok ds
  | _ => .stuck
def tup (f : Env → Res D) : Env → Res (List D) := fun ρ => (f ρ).bind fun d => match d with
  | .tup ds => .ok ds
  | _ => .stuck
end Z
/-- a part of a list, as xs[lo:hi] -/
def cut {α : Type} (xs : List α) (lo hi : Option Int) : List α := (xs.drop (HT.sIx xs.length 0 lo)).take (HT.sIx xs.length xs.length hi - HT.sIx xs.length 0 lo)
namespace E
def len (q : Env → Res (List D)) : Env → Res D := fun ρ => (q ρ).bind fun ds => .ok (.int ds.length)
def ix (q : Env → Res (List D)) (f : Env → Res D) : Env → Res D := fun ρ => (q ρ).bind fun ds => (f ρ).bind fun i => match i with
  | .int i => (match atI ds i with
    | some d => .ok d
    | none => .stuck)
  | _ => .stuck
def ixS (q f : Env → Res D) : Env → Res D := fun ρ => (q ρ).bind fun x => (f ρ).bind fun i => match x, i with
  | .str z, .int i => if z.length ≤ sizeLine then (match atI z.cps.toList i with
    | some c => .ok (.str ⟨#[c]⟩)
    | none => .stuck) else .stuck
  | _, _ => .stuck
def tupl (f : Env → Res (List D)) : Env → Res D := fun ρ => (f ρ).bind fun ds => if ds.length ≤ sizeLine then .ok (.tup ds) else .stuck
def disp (f : Env → Res (List D)) : Env → Res (List D) := fun ρ => (f ρ).bind fun ds => if ds.length ≤ sizeLine then .ok ds else .stuck
def asTup (f : Env → Res (List D)) : Env → Res D := fun ρ => (f ρ).bind fun ds => .ok (.tup ds)
def cat (f g : Env → Res (List D)) : Env → Res (List D) := fun ρ => (f ρ).bind fun xs => (g ρ).bind fun ys => if xs.length + ys.length ≤ sizeLine then .ok (xs ++ ys) else .stuck
def part (f : Env → Res D) : Env → Res (Option Int) := fun ρ => (f ρ).bind fun d => match d with
  | .int i => .ok (some i)
  | _ => .stuck
def nopart : Env → Res (Option Int) := fun _ => .ok none
def cutL (q : Env → Res (List D)) (lo hi : Env → Res (Option Int)) : Env → Res (List D) := fun ρ => (q ρ).bind fun xs => (lo ρ).bind fun a => (hi ρ).bind fun b => .ok (De.cut xs a b)
def cutT (q : Env → Res (List D)) (lo hi : Env → Res (Option Int)) : Env → Res D := fun ρ => (q ρ).bind fun xs => (lo ρ).bind fun a => (hi ρ).bind fun b => .ok (.tup (De.cut xs a b))
end E
section
variable {Γ : Gam} {k j : Nat} {X : Cx} {W : WX} {l : Bool}
theorem dl_own (i : Nat) {x : Str} {pos : Pos} (hN : X.N[i]? = some x := by rfl) (hv : Vis X.env.scope x := by first | exact Or.inl rfl | exact Or.inr (Or.inl rfl) | exact Or.inr (Or.inr rfl)) (hd : (x == ("__debug__" : Str)) = false := by decide)
    (hcd : (x == ("__classdict__" : Str)) = false := by decide) : DL Γ k X W (.Name x pos) (Z.own i) := fun S => by
  refine ⟨_, pe_var hN hv hd hcd, fun M0 H0 σ H ρ Q G h => ?_⟩
  unfold Z.own at h
  cases q : ρ[i]? with
  | none => rw [q] at h; exact h.elim
  | some c =>
    rw [q] at h
    cases c with
    | own ds =>
      obtain ⟨p, vs, e, h1, r⟩ := G.cel i _ q
      exact ⟨.ref p, e, h p vs H (Same.refl H) h1 r⟩
    | no => exact h.elim
    | val d => exact h.elim
    | ins c fs => exact h.elim
theorem dl_df {e : Expr} {f : Env → Res (List D)} (h : DF Γ k X W e f) : DL Γ k X W e f := fun S => by
  obtain ⟨te, pe, r⟩ := h S
  exact ⟨te, pe, fun M0 H0 σ H ρ Q G h => r M0 H0 σ H ρ Q G (h.imp (Same.refl H) fun ds w p vs H' h0 e h1 r => w p vs H' e h1 (RpL.imp (.weak fun a z => .inl z) _ _ r))⟩
theorem dq_dl {e : Expr} {f : Env → Res (List D)} (h : DL Γ k X W e f) : DQ Γ k X W true e f := fun S => by
  obtain ⟨te, pe, r⟩ := h S
  exact ⟨te, pe, fun M0 H0 σ H ρ Q G h => r M0 H0 σ H ρ Q G (h.imp (Same.refl H) fun ds w p vs H' e h1 r => w p vs H' e (by unfold Sq; rw [if_pos rfl]; exact SqL.of h1) r)⟩
theorem dq_own (i : Nat) {x : Str} {pos : Pos} (hN : X.N[i]? = some x := by rfl) (hv : Vis X.env.scope x := by first | exact Or.inl rfl | exact Or.inr (Or.inl rfl) | exact Or.inr (Or.inr rfl)) (hd : (x == ("__debug__" : Str)) = false := by decide)
    (hcd : (x == ("__classdict__" : Str)) = false := by decide) : DQ Γ k X W true (.Name x pos) (Z.own i) := dq_dl (dl_own i hN hv hd hcd)
theorem dq_df {e : Expr} {f : Env → Res (List D)} (h : DF Γ k X W e f) : DQ Γ k X W true e f := dq_dl (dl_df h)
theorem dq_lst {e : Expr} {f : Env → Res D} (h : DE Γ k X W e f) : DQ Γ k X W true e (Z.lst f) := fun S => by
  obtain ⟨te, pe, r⟩ := h S
  refine ⟨te, pe, fun M0 H0 σ H ρ Q G h => r M0 H0 σ H ρ Q G ((Post.bind h).imp (Same.refl H) fun d w v H' e r => ?_)⟩
  cases d with
  | lst ds =>
    rw [Rp] at r
    obtain ⟨p, vs, rfl, t, r⟩ := r
    exact (show WantQ Γ true _ H Q ds from w) p vs H' e (by unfold Sq; rw [if_pos rfl]; exact t.sq) r
  | _ => exact (show False from w).elim
theorem dq_tup {e : Expr} {f : Env → Res D} (h : DE Γ k X W e f) : DQ Γ k X W false e (Z.tup f) := fun S => by
  obtain ⟨te, pe, r⟩ := h S
  refine ⟨te, pe, fun M0 H0 σ H ρ Q G h => r M0 H0 σ H ρ Q G ((Post.bind h).imp (Same.refl H) fun d w v H' e r => ?_)⟩
  cases d with
  | tup ds =>
    rw [Rp] at r
    obtain ⟨p, vs, rfl, t, r⟩ := r
    exact (show WantQ Γ false _ H Q ds from w) p vs H' e (by unfold Sq; rw [if_neg Bool.false_ne_true]; exact t.sq) r
  | _ => exact (show False from w).elim
/-! ### displays -/
theorem de_tupl {es : List Expr} {c : Nat} {f : Env → Res (List D)} {pos : Pos} (ha : DA Γ k X W es f) : DE Γ k X W (.Tuple es c pos) (E.tupl f) := fun S => by
  obtain ⟨ta, pa, ra⟩ := ha S
  refine ⟨_, pe_tup pa, fun M0 H0 σ H ρ Q G h => ra M0 H0 σ H ρ _ G ((Post.bind h).imp (Same.refl H) fun ds w vs H1 e1 r => ?_)⟩
  split at w
  · rename_i hl
    refine ⟨by rw [r.length]; exact hl, fun p hp => (show WantE Γ _ H Q (.tup ds) from w) _ _ (e1.trans (Same.trans (Same.refl _) fun a o h => by rw [upd_ne (ne_of_none h hp)]; exact h)) ?_⟩
    rw [Rp]
    refine ⟨p, vs, rfl, .inl ⟨.inl upd_same, fun z => Mx.alive (G.mono e1) z hp⟩, r.mono fun a o h => by rw [upd_ne (ne_of_none h hp)]; exact h⟩
  · exact (show False from w).elim
theorem new_lst {M : Addr → Prop} {H H1 : Hp} {Q : VK} {ds : List D} {vs : List V} {p : Addr} (w : WantF Γ M H Q ds) (e1 : Same H H1) (r : RpL Γ M H1 ds vs) (hp : H1 p = none) : Q (.ref p) (upd H1 p (.lst vs)) := by
  have s : Same H1 (upd H1 p (.lst vs)) := fun a o h => by rw [upd_ne (ne_of_none h hp)]; exact h
  refine w p vs _ (e1.free hp) (e1.trans s) upd_same (RpL.imp (Imp.trans (Imp.fresh hp) (.mono s)) _ _ r)
theorem df_lst {es : List Expr} {f : Env → Res (List D)} {pos : Pos} (ha : DA Γ k X W es f) : DF Γ k X W (.List es pos) (E.disp f) := fun S => by
  obtain ⟨ta, pa, ra⟩ := ha S
  refine ⟨_, pe_lst pa, fun M0 H0 σ H ρ Q G h => ra M0 H0 σ H ρ _ G ((Post.bind h).imp (Same.refl H) fun ds w vs H1 e1 r => ?_)⟩
  split at w
  · rename_i hl
    exact ⟨by rw [r.length]; exact hl, fun p hp => new_lst w e1 r hp⟩
  · exact (show False from w).elim
/-! ### reading -/
theorem RpL.atI {M : Addr → Prop} {H : Hp} {ds : List D} {vs : List V} {i : Int} {d : D} (r : RpL Γ M H ds vs) (h : L2.atI ds i = some d) : ∃ v, L2.atI vs i = some v ∧ Rp Γ M H d v := by
  unfold L2.atI at h ⊢
  rw [r.length]
  cases q : ixN ds.length i with
  | none => rw [q] at h; cases h
  | some j =>
    rw [q] at h
    exact r.get (i := j) h
theorem de_ix {a b : Expr} {q : Env → Res (List D)} {f : Env → Res D} {pos : Pos} (ha : DQ Γ k X W l a q) (hb : DE Γ k X W b f) (hs : PlainIx b := by intro _ _; rfl) : DE Γ k X W (.Subscript a b pos) (E.ix q f) := fun S => by
  obtain ⟨ta, pa, ra⟩ := ha S
  obtain ⟨tb, pb, rb⟩ := hb S
  refine ⟨_, pe_ix ix_seq pa pb hs, fun M0 H0 σ H ρ Q G h => ?_⟩
  refine ra M0 H0 σ H ρ _ G ((Post.bind h).imp (Same.refl H) fun ds w p vs H1 e1 sq r => ?_)
  have G1 := G.mono e1
  refine rb M0 H0 σ H1 ρ _ G1 ((Post.bind w).imp e1 fun d w2 v H2 e2 r2 => ?_)
  cases d with
  | int i =>
    rw [Rp] at r2
    subst r2
    cases z : L2.atI ds i with
    | none =>
      dsimp only at w2
      rw [z] at w2
      exact w2.elim
    | some d =>
      dsimp only at w2
      rw [z] at w2
      obtain ⟨u, h1, h2⟩ := (r.mono e2).atI z
      have sq2 := sq.mono e2
      have fin := (show WantE Γ _ H Q d from w2) u H2 (e1.trans e2) h2
      unfold Sq at sq2
      split at sq2
      · exact .inl ⟨p, vs, i, u, rfl, rfl, by rw [S.K]; exact sq2, h1, fin⟩
      · exact .inr (.inl ⟨p, vs, i, u, rfl, rfl, by rw [S.K]; exact sq2, h1, fin⟩)
  | _ => exact (show False from w2).elim
theorem de_ixS {a b : Expr} {q f : Env → Res D} {pos : Pos} (ha : DE Γ k X W a q) (hb : DE Γ k X W b f) (hs : PlainIx b := by intro _ _; rfl) : DE Γ k X W (.Subscript a b pos) (E.ixS q f) := fun S => by
  obtain ⟨ta, pa, ra⟩ := ha S
  obtain ⟨tb, pb, rb⟩ := hb S
  refine ⟨_, pe_ix ix_str pa pb hs, fun M0 H0 σ H ρ Q G h => ?_⟩
  refine ra M0 H0 σ H ρ _ G ((Post.bind h).imp (Same.refl H) fun x w v H1 e1 r => ?_)
  have G1 := G.mono e1
  refine rb M0 H0 σ H1 ρ _ G1 ((Post.bind w).imp e1 fun d w2 u H2 e2 r2 => ?_)
  cases x <;> cases d <;> first | exact (show False from w2).elim | skip
  rename_i z i
  rw [Rp] at r; rw [Rp] at r2
  dsimp only at w2
  split at w2
  · rename_i hz
    cases q : L2.atI z.cps.toList i with
    | none => rw [q] at w2; exact w2.elim
    | some c =>
      rw [q] at w2
      exact ⟨z, i, c, r, r2, hz, q, (show WantE Γ _ H Q _ from w2) _ H2 (e1.trans e2) (by rw [Rp])⟩
  · exact w2.elim
theorem de_len {e : Expr} {q : Env → Res (List D)} {p pos : Pos} (ha : DQ Γ k X W l e q) (hm : Γ.mg "len" = none) (hg : Gl X "len" := by rfl) (hst : starEach [e] X.env = (false, eval e X.env) :: starEach [] X.env := by rfl)
    (hpl : (backTo pos (starEach [] X.env)).any (·.1) = false := by rfl) : DE Γ k X W (.Call (.Name "len" p) [e] [] pos) (E.len q) := fun S => by
  obtain ⟨ta, pa, ra⟩ := ha S
  refine ⟨_, pe_callB call_len_seq hg (by rw [S.mg]; exact hm) PySem.boot_len (pa_cons pa pa_nil hst) (he := hst) (hpl := hpl), fun M0 H0 σ H ρ Q G h => ?_⟩
  refine ra M0 H0 σ H ρ _ G ((Post.bind h).imp (Same.refl H) fun ds w p vs H1 e1 sq r => ?_)
  refine ⟨p, vs, rfl, ?_, (show WantE Γ _ H Q _ from w) _ H1 e1 (by rw [Rp, r.length])⟩
  unfold Sq at sq
  split at sq
  · exact .inl (by rw [S.K]; exact sq)
  · exact .inr (by rw [S.K]; exact sq)
theorem de_lenS {e : Expr} {f : Env → Res D} {p pos : Pos} (ha : DE Γ k X W e f) (hm : Γ.mg "len" = none) (hg : Gl X "len" := by rfl) (hst : starEach [e] X.env = (false, eval e X.env) :: starEach [] X.env := by rfl) (hpl : (backTo pos (starEach [] X.env)).any (·.1) = false := by rfl) : DE Γ k X W (.Call (.Name "len" p) [e] [] pos) (E.op1 (fun d => match d with
    | .str z => if z.length ≤ sizeLine then .ok (.int z.length) else .stuck
    | _ => .stuck) f) := fun S => by
  obtain ⟨ta, pa, ra⟩ := ha S
  refine ⟨_, pe_callB call_len_str hg (by rw [S.mg]; exact hm) PySem.boot_len (pa_cons pa pa_nil hst) (he := hst) (hpl := hpl), fun M0 H0 σ H ρ Q G h => ?_⟩
  refine ra M0 H0 σ H ρ _ G ((Post.bind h).imp (Same.refl H) fun d w v H1 e1 r => ?_)
  cases d with
  | str z =>
    rw [Rp] at r
    subst r
    dsimp only at w
    split at w
    · rename_i hz
      exact ⟨z, rfl, hz, (show WantE Γ _ H Q _ from w) _ H1 e1 (by rw [Rp])⟩
    · exact w.elim
  | _ => exact (show False from w).elim
/-! ### list(x), tuple(x), +, slices -/
theorem df_list {e : Expr} {q : Env → Res (List D)} {p pos : Pos} (ha : DQ Γ k X W l e q) (hm : Γ.mg "list" = none) (hg : Gl X "list" := by rfl) (hst : starEach [e] X.env = (false, eval e X.env) :: starEach [] X.env := by rfl) (hpl : (backTo pos (starEach [] X.env)).any (·.1) = false := by rfl) : DF Γ k X W (.Call (.Name "list" p) [e] [] pos) q := fun S => by
  obtain ⟨ta, pa, ra⟩ := ha S
  refine ⟨_, pe_callTy call_list_of hg (by rw [S.mg]; exact hm) (by decide +kernel) (pa_cons pa pa_nil hst) (he := hst) (hpl := hpl), fun M0 H0 σ H ρ Q G h => ?_⟩
  refine ra M0 H0 σ H ρ _ G (h.imp (Same.refl H) fun ds w p vs H1 e1 sq r => ?_)
  refine ⟨p, vs, rfl, ?_, fun b hb => new_lst w e1 r hb⟩
  unfold Sq at sq
  split at sq
  · exact .inl (by rw [S.K]; exact sq)
  · exact .inr (by rw [S.K]; exact sq)
theorem de_tuple {e : Expr} {q : Env → Res (List D)} {p pos : Pos} (ha : DQ Γ k X W true e q) (hm : Γ.mg "tuple" = none) (hg : Gl X "tuple" := by rfl) (hst : starEach [e] X.env = (false, eval e X.env) :: starEach [] X.env := by rfl) (hpl : (backTo pos (starEach [] X.env)).any (·.1) = false := by rfl) : DE Γ k X W (.Call (.Name "tuple" p) [e] [] pos) (E.asTup q) := fun S => by
  obtain ⟨ta, pa, ra⟩ := ha S
  refine ⟨_, pe_callTy call_tuple_of hg (by rw [S.mg]; exact hm) (by decide +kernel) (pa_cons pa pa_nil hst) (he := hst) (hpl := hpl), fun M0 H0 σ H ρ Q G h => ?_⟩
  refine ra M0 H0 σ H ρ _ G ((Post.bind h).imp (Same.refl H) fun ds w p vs H1 e1 sq r => ?_)
  refine ⟨p, vs, rfl, .inl ⟨by unfold Sq at sq; rw [if_pos rfl] at sq; rw [S.K]; exact sq, fun b hb => ?_⟩⟩
  have s : Same H1 (upd H1 b (.tup vs)) := fun a o h => by rw [upd_ne (ne_of_none h hb)]; exact h
  refine (show WantE Γ _ H Q _ from w) _ _ (e1.trans s) ?_
  rw [Rp]
  exact ⟨b, vs, rfl, .inl ⟨.inl upd_same, fun z => Mx.alive (G.mono e1) z hb⟩, r.mono s⟩
theorem de_tupleT {e : Expr} {f : Env → Res D} {p pos : Pos} (ha : DE Γ k X W e f) (hm : Γ.mg "tuple" = none) (hg : Gl X "tuple" := by rfl) (hst : starEach [e] X.env = (false, eval e X.env) :: starEach [] X.env := by rfl) (hpl : (backTo pos (starEach [] X.env)).any (·.1) = false := by rfl) : DE Γ k X W (.Call (.Name "tuple" p) [e] [] pos) (E.op1 (fun d => match d with
    | .tup ds => .ok (.tup ds)
    | _ => .stuck) f) := fun S => by
  obtain ⟨ta, pa, ra⟩ := ha S
  refine ⟨_, pe_callTy call_tuple_of hg (by rw [S.mg]; exact hm) (by decide +kernel) (pa_cons pa pa_nil hst) (he := hst) (hpl := hpl), fun M0 H0 σ H ρ Q G h => ?_⟩
  refine ra M0 H0 σ H ρ _ G ((Post.bind h).imp (Same.refl H) fun d w v H1 e1 r => ?_)
  cases d with
  | tup ds =>
    have r' := r
    rw [Rp] at r'
    obtain ⟨p, vs, rfl, t, _⟩ := r'
    exact ⟨p, vs, rfl, .inr ⟨by rw [S.K]; exact t.sq, (show WantE Γ _ H Q _ from w) _ H1 e1 r⟩⟩
  | _ => exact (show False from w).elim
theorem df_cat {a b : Expr} {f g : Env → Res (List D)} {pos : Pos} (ha : DL Γ k X W a f) (hb : DL Γ k X W b g) : DF Γ k X W (.BinOp a .Add b pos) (E.cat f g) := fun S => by
  obtain ⟨ta, pa, ra⟩ := ha S
  obtain ⟨tb, pb, rb⟩ := hb S
  refine ⟨_, pe_op op_cat pa pb, fun M0 H0 σ H ρ Q G h => ?_⟩
  refine ra M0 H0 σ H ρ _ G ((Post.bind h).imp (Same.refl H) fun xs w p vs H1 e1 h1 r => ?_)
  have G1 := G.mono e1
  refine rb M0 H0 σ H1 ρ _ G1 ((Post.bind w).imp e1 fun ys w2 p2 us H2 e2 h2 r2 => ?_)
  split at w2
  · rename_i hl
    exact ⟨p, p2, vs, us, rfl, rfl, e2 _ _ h1, h2, by rw [r.length, r2.length]; exact hl, fun b hb => new_lst w2 (e1.trans e2) ((r.mono e2).append r2) hb⟩
  · exact (show False from w2).elim
/-- a part of a slice -/
def DP (Γ : Gam) (k : Nat) (X : Cx) (W : WX) (o : Option Expr) (f : Env → Res (Option Int)) : Prop := Sit Γ k X W → ∃ to : TO, PO X o to ∧
  ∀ M0 H0 σ H ρ (Q : Option Int → Hp → Prop), Gd Γ M0 H0 σ H ρ → Post Γ W σ H (f ρ) (fun i => ∀ H', Same H H' → Q i H') → to σ H Q
theorem dp_none : DP Γ k X W none E.nopart := fun S => ⟨_, po_none, fun M0 H0 σ H ρ Q G h => h H (Same.refl H)⟩
theorem dp_some {e : Expr} {f : Env → Res D} (he : DE Γ k X W e f) : DP Γ k X W (some e) (E.part f) := fun S => by
  obtain ⟨te, pe, re⟩ := he S
  refine ⟨_, po_some pe, fun M0 H0 σ H ρ Q G h => re M0 H0 σ H ρ _ G ((Post.bind h).imp (Same.refl H) fun d w v H1 e1 r => ?_)⟩
  cases d with
  | int i =>
    rw [Rp] at r
    exact ⟨i, r, w H1 e1⟩
  | _ => exact (show False from w).elim
theorem RpL.cut {M : Addr → Prop} {H : Hp} {ds : List D} {vs : List V} (r : RpL Γ M H ds vs) (a b : Option Int) : RpL Γ M H (De.cut ds a b) (cutV vs a b) := by
  unfold De.cut cutV
  rw [r.length]
  exact (r.drop _).take _
theorem df_cut {a : Expr} {lo hi : Option Expr} {q : Env → Res (List D)} {f g : Env → Res (Option Int)} {p2 pos : Pos} (ha : DQ Γ k X W true a q) (hl : DP Γ k X W lo f) (hh : DP Γ k X W hi g) : DF Γ k X W (.Subscript a (.Slice lo hi none p2) pos) (E.cutL q f g) := fun S => by
  obtain ⟨ta, pa, ra⟩ := ha S
  obtain ⟨tl, pl, rl⟩ := hl S
  obtain ⟨th, ph, rh⟩ := hh S
  refine ⟨_, pe_slice sl_list pa pl ph, fun M0 H0 σ H ρ Q G h => ?_⟩
  refine ra M0 H0 σ H ρ _ G ((Post.bind h).imp (Same.refl H) fun xs w p vs H1 e1 sq r => ?_)
  refine rl M0 H0 σ H1 ρ _ (G.mono e1) ((Post.bind w).imp e1 fun i w2 H2 e2 => ?_)
  refine rh M0 H0 σ H2 ρ _ ((G.mono e1).mono e2) ((Post.bind w2).imp (e1.trans e2) fun j w3 H3 e3 => ?_)
  have e := (e1.trans e2).trans e3
  have sq3 := (sq.mono e2).mono e3
  unfold Sq at sq3
  rw [if_pos rfl] at sq3
  exact ⟨p, vs, rfl, by rw [S.K]; exact sq3, fun b hb => new_lst w3 e (((r.mono e2).mono e3).cut i j) hb⟩
end
set_option Elab.async false
set_option linter.all false
set_option maxRecDepth 100000
set_option maxHeartbeats 4000000
open PySem L2
/-! ### the type of a datum -/
def tyv (Γ : Gam) : D → Value
  | .non => .type "NoneType"
  | .bl _ => .type "bool"
  | .int _ => .type "int"
  | .str _ => .type "str"
  | .tup _ => .type "tuple"
  | .lst _ => .type "list"
  | .obj c _ => .ref (Γ.cls c)
structure InsOk (Γ : Gam) (c : Nat) : Prop where
  cl : Cls Γ.K (Γ.cls c)
  hc : PySem.W.findIn Γ.K (.ref (Γ.cls c)) "__class__" = some (some (.builtin "object.__class__"))
  hn : PySem.W.specialIn Γ.K (.builtin "object.__class__") "__get__" = some (some (.builtin "getset_descriptor.__get__"))
  tk : PySem.W.takesIn Γ.K (.builtin "object.__class__") = some true
  mo : PySem.W.mroIn Γ.K (Γ.cls c) (.type "object") = some true
theorem ClsOk.ins {Γ : Gam} {c : Nat} {x : Str} (h : ClsOk Γ c x) : InsOk Γ c := ⟨h.cl, h.hc, h.hn, h.tk, h.mo⟩
section
variable {Γ : Gam} {k j : Nat} {X : Cx} {W : WX}
theorem looks_ref {M : Model} {h : Heap} {a : Addr} {o : Obj} {t : Value} (e : h.get? a = some o) (hc : o.cls = t) : PySem.W.Looks M h (typeOf (.ref a)) t := fun A Q E s kp q => wpAny_typeOf_ref (kp _ _ e) (by rw [hc]; exact q)
theorem tyLooks {pins : List (Addr × Obj)} {σ : St} {H : Hp} {s : Shared} {M : Addr → Prop} {d : D} {v : V} {u : Value} (hK : X.K = Γ.K) (I : Inv X pins σ H s) (rv : RelV v u) (r : Rp Γ M H d v) {Md : Model} : PySem.W.Looks Md s.heap (typeOf u) (tyv Γ d) := by
  cases d with
  | non => rw [Rp] at r; subst r; cases rv; exact PySem.W.Looks.of_pure rfl
  | bl b => rw [Rp] at r; subst r; cases rv; exact PySem.W.Looks.of_pure rfl
  | int i => rw [Rp] at r; subst r; obtain ⟨t, rfl⟩ := rv; exact PySem.W.Looks.of_pure rfl
  | str x => rw [Rp] at r; subst r; obtain ⟨t, rfl⟩ := rv; exact PySem.W.Looks.of_pure rfl
  | tup ds =>
    rw [Rp] at r
    obtain ⟨a, vs, rfl, t, _⟩ := r
    cases rv
    obtain ⟨its, _, ⟨o, e, hc, _⟩, _⟩ := I.tuple (by rw [hK]; exact t.sq)
    exact looks_ref e hc
  | lst ds =>
    rw [Rp] at r
    obtain ⟨a, vs, rfl, t, _⟩ := r
    cases rv
    obtain ⟨its, _, ⟨o, n, e, hc, _, _⟩, _⟩ := I.list (by rw [hK]; exact t.sq)
    exact looks_ref e hc
  | obj c fs =>
    obtain ⟨a, dx, us, rfl, h, _⟩ := obj_at r
    cases rv
    obtain ⟨_, _, J⟩ := ins_at I h
    exact J.type
theorem tyX {M : Addr → Prop} {H : Hp} {d : D} {v : V} (r : Rp Γ M H d v) (ho : ∀ c fs, d = .obj c fs → InsOk Γ c) : TyX Γ.K H v (tyv Γ d) := by
  cases d with
  | non => rw [Rp] at r; subst r; exact .base .non
  | bl b => rw [Rp] at r; subst r; exact .base (.bl b)
  | int i => rw [Rp] at r; subst r; exact .base (.int i)
  | str x => rw [Rp] at r; subst r; exact .base (.str x)
  | tup ds =>
    rw [Rp] at r
    obtain ⟨a, vs, rfl, t, _⟩ := r
    rcases t with ⟨t | ⟨o, t⟩, _⟩ | ⟨o, its, n, t, hc, _⟩
    · exact .base (.tup t)
    · exact .fTuple t
    · exact .kTuple t hc
  | lst ds =>
    rw [Rp] at r
    obtain ⟨a, vs, rfl, t, _⟩ := r
    rcases t with ⟨t | ⟨o, t⟩, _⟩ | ⟨o, its, n, t, hc, _⟩
    · exact .base (.lst t)
    · exact .base (.frz t)
    · exact .kList t hc
  | obj c fs =>
    obtain ⟨a, dx, us, rfl, h, _⟩ := obj_at r
    have z := ho c fs rfl
    exact .base (.ins h z.cl z.hc z.hn z.tk z.mo)
/-! ### isinstance -/
/-- tst: what is answered of a datum, where it is known -/
structure IsiOk (Γ : Gam) (u : Value) (tst : D → Option Bool) : Prop where
  ok : ∀ d b, tst d = some b → PySem.W.kitOne Γ.K (tyv Γ d) u = some b
  obj : ∀ c fs b, tst (.obj c fs) = some b → InsOk Γ c
def isiR (tst : D → Option Bool) : D → Res D := fun d => match tst d with
  | some b => .ok (.bl b)
  | none => .stuck
theorem isi_run {e ce : Expr} {f : Env → Res D} {tst : D → Option Bool} {cv : V} {u : Value} {tc : TE} {p pos : Pos} (O : IsiOk Γ u tst) (hu : ClsV cv u) (he : DE Γ k X W e f) (pc : PE X ce tc) (hc : ∀ σ H (Q : VK), Q cv H → tc σ H Q) (hm : Γ.mg "isinstance" = none) (hg : Gl X "isinstance" := by rfl)
    (hst : starEach [e, ce] X.env = (false, eval e X.env) :: starEach [ce] X.env := by rfl) (hst2 : starEach [ce] X.env = (false, eval ce X.env) :: starEach [] X.env := by rfl) (hpl : (backTo pos (starEach [ce] X.env)).any (·.1) = false := by rfl) :
    DE Γ k X W (.Call (.Name "isinstance" p) [e, ce] [] pos) (E.op1 (isiR tst) f) := fun S => by
  obtain ⟨te, pe, re⟩ := he S
  refine ⟨_, pe_callB call_isi hg (by rw [S.mg]; exact hm) (by decide +kernel) (pa_cons pe (pa_cons pc pa_nil hst2) hst) (he := hst) (hpl := hpl), fun M0 H0 σ H ρ Q G h => ?_⟩
  refine re M0 H0 σ H ρ _ G ((Post.bind h).imp (Same.refl H) fun d w v H1 e1 r => ?_)
  refine hc σ H1 _ ?_
  unfold isiR at w
  cases q : tst d with
  | none => rw [q] at w; exact w.elim
  | some b =>
    rw [q] at w
    exact ⟨v, cv, tyv Γ d, u, b, rfl, hu, by rw [S.K]; exact tyX r fun c fs e => O.obj c fs b (by rw [← e]; exact q), by rw [S.K]; exact O.ok d b q, (show WantE Γ _ H Q _ from w) _ H1 e1 (by rw [Rp])⟩
/-- isinstance(e, T), T a built-in type by its name -/
theorem de_isiT {e : Expr} {f : Env → Res D} {tst : D → Option Bool} {T : Str} {t : String} {p p2 pos : Pos} (O : IsiOk Γ (.type t) tst) (he : DE Γ k X W e f) (hm : Γ.mg "isinstance" = none) (hmT : Γ.mg T = none) (hv : bootBuiltins T = some (.type t)) (hg : Gl X "isinstance" := by rfl) (hgT : Gl X T := by rfl)
    (hn : T ≠ "__name__" := by decide) (hdb : (T == ("__debug__" : Str)) = false := by decide)
    (hst : starEach [e, .Name T p2] X.env = (false, eval e X.env) :: starEach [.Name T p2] X.env := by rfl) (hst2 : starEach [.Name T p2] X.env = (false, eval (.Name T p2) X.env) :: starEach [] X.env := by rfl) (hpl : (backTo pos (starEach [.Name T p2] X.env)).any (·.1) = false := by rfl) :
    DE Γ k X W (.Call (.Name "isinstance" p) [e, .Name T p2] [] pos) (E.op1 (isiR tst) f) := fun S =>
  isi_run (p := p) O (.ty t) he (pe_bltn (v := .ty t) hgT (by rw [S.mg]; exact hmT) hv rfl hn hdb) (fun σ H Q q => q) hm hg hst hst2 hpl S
/-- isinstance(e, C), C a class of the program -/
theorem de_isiC {e : Expr} {f : Env → Res D} {tst : D → Option Bool} {c : Nat} {x : Str} {p p2 pos : Pos} (O : IsiOk Γ (.ref (Γ.cls c)) tst) (K : ClsOk Γ c x) (he : DE Γ k X W e f) (hm : Γ.mg "isinstance" = none) (hg : Gl X "isinstance" := by rfl) (hgT : Gl X x := by rfl)
    (hdb : (x == ("__debug__" : Str)) = false := by decide)
    (hst : starEach [e, .Name x p2] X.env = (false, eval e X.env) :: starEach [.Name x p2] X.env := by rfl) (hst2 : starEach [.Name x p2] X.env = (false, eval (.Name x p2) X.env) :: starEach [] X.env := by rfl) (hpl : (backTo pos (starEach [.Name x p2] X.env)).any (·.1) = false := by rfl) :
    DE Γ k X W (.Call (.Name "isinstance" p) [e, .Name x p2] [] pos) (E.op1 (isiR tst) f) := fun S =>
  isi_run (p := p) O (.own (Γ.cls c)) he (pe_glob (v := .ref (Γ.cls c)) hgT (by rw [S.mg]; exact K.mg) rfl hdb) (fun σ H Q q => q) hm hg hst hst2 hpl S
/-! ### built-in functions of ints -/
theorem de_call1 {e : Expr} {f : Env → Res D} {x : Str} {id : String} {r : List V → Hp → VK → Prop} {g : D → Res D} {p pos : Pos} (cr : Sit Γ k X W → CallR X (.builtin id) r) (n : ∀ d z, g d ≠ .exc z)
    (hr : ∀ (M : Addr → Prop) (H : Hp) (d : D) (v : V) (Q : VK), (∀ a, M a → H a ≠ none) → Rp Γ M H d v → Post Γ (fun _ _ _ _ => False) [] H (g d) (WantE Γ M H Q) → r [v] H Q)
    (he : DE Γ k X W e f) (hm : Γ.mg x = none) (hv : bootBuiltins x = some (.builtin id)) (hg : Gl X x := by rfl) (hn : x ≠ "__name__" := by decide) (hdb : (x == ("__debug__" : Str)) = false := by decide)
    (hst : starEach [e] X.env = (false, eval e X.env) :: starEach [] X.env := by rfl) (hpl : (backTo pos (starEach [] X.env)).any (·.1) = false := by rfl) : DE Γ k X W (.Call (.Name x p) [e] [] pos) (E.op1 g f) := fun S => by
  obtain ⟨te, pe, re⟩ := he S
  refine ⟨_, pe_callB (cr S) hg (by rw [S.mg]; exact hm) hv (pa_cons pe pa_nil hst) hn hdb hst hpl, fun M0 H0 σ H ρ Q G h => ?_⟩
  refine re M0 H0 σ H ρ _ G ((Post.bind h).imp (Same.refl H) fun d w v H1 e1 r1 => ?_)
  exact hr (Mx M0 σ ρ) H1 d v Q (fun a z => Mx.alive (G.mono e1) z) r1 (no_exc (w.imp e1 fun d z => z.back e1) (n d))
theorem de_callT1 {e : Expr} {f : Env → Res D} {x : Str} {id : String} {r : List V → Hp → VK → Prop} {g : D → Res D} {p pos : Pos} (cr : Sit Γ k X W → CallR X (.type id) r) (n : ∀ d z, g d ≠ .exc z)
    (hr : ∀ (M : Addr → Prop) (H : Hp) (d : D) (v : V) (Q : VK), (∀ a, M a → H a ≠ none) → Rp Γ M H d v → Post Γ (fun _ _ _ _ => False) [] H (g d) (WantE Γ M H Q) → r [v] H Q)
    (he : DE Γ k X W e f) (hm : Γ.mg x = none) (hv : bootBuiltins x = some (.type id)) (hg : Gl X x := by rfl) (hn : x ≠ "__name__" := by decide) (hdb : (x == ("__debug__" : Str)) = false := by decide)
    (hst : starEach [e] X.env = (false, eval e X.env) :: starEach [] X.env := by rfl) (hpl : (backTo pos (starEach [] X.env)).any (·.1) = false := by rfl) : DE Γ k X W (.Call (.Name x p) [e] [] pos) (E.op1 g f) := fun S => by
  obtain ⟨te, pe, re⟩ := he S
  refine ⟨_, pe_callTy (cr S) hg (by rw [S.mg]; exact hm) hv (pa_cons pe pa_nil hst) hn hdb hst hpl, fun M0 H0 σ H ρ Q G h => ?_⟩
  refine re M0 H0 σ H ρ _ G ((Post.bind h).imp (Same.refl H) fun d w v H1 e1 r1 => ?_)
  exact hr (Mx M0 σ ρ) H1 d v Q (fun a z => Mx.alive (G.mono e1) z) r1 (no_exc (w.imp e1 fun d z => z.back e1) (n d))
def absI : D → Res D
  | .int i => .ok (.int (if i < 0 then -i else i))
  | _ => .stuck
theorem de_abs {e : Expr} {f : Env → Res D} {p pos : Pos} (he : DE Γ k X W e f) (hm : Γ.mg "abs" = none) (hg : Gl X "abs" := by rfl) (hst : starEach [e] X.env = (false, eval e X.env) :: starEach [] X.env := by rfl) (hpl : (backTo pos (starEach [] X.env)).any (·.1) = false := by rfl) :
    DE Γ k X W (.Call (.Name "abs" p) [e] [] pos) (E.op1 absI f) :=
  de_call1 (fun _ => call_abs) (fun d z => by cases d <;> exact fun q => nomatch q) (fun M H d v Q hM r w => by
    cases d with
    | int i => rw [Rp] at r; subst r; exact ⟨i, rfl, (show WantE Γ M H Q _ from w) _ H (Same.refl H) (by rw [Rp])⟩
    | _ => exact (show False from w).elim) he hm (by decide +kernel) hg (hst := hst) (hpl := hpl)
def intC : D → Res D
  | .int i => .ok (.int i)
  | .bl b => .ok (.int (if b then 1 else 0))
  | _ => .stuck
theorem de_intC {e : Expr} {f : Env → Res D} {p pos : Pos} (he : DE Γ k X W e f) (hm : Γ.mg "int" = none) (hg : Gl X "int" := by rfl) (hst : starEach [e] X.env = (false, eval e X.env) :: starEach [] X.env := by rfl) (hpl : (backTo pos (starEach [] X.env)).any (·.1) = false := by rfl) :
    DE Γ k X W (.Call (.Name "int" p) [e] [] pos) (E.op1 intC f) :=
  de_callT1 (fun _ => call_int1) (fun d z => by cases d <;> exact fun q => nomatch q) (fun M H d v Q hM r w => by
    cases d with
    | int i => rw [Rp] at r; subst r; exact .inl ⟨i, rfl, (show WantE Γ M H Q _ from w) _ H (Same.refl H) (by rw [Rp])⟩
    | bl i => rw [Rp] at r; subst r; exact .inr ⟨i, rfl, (show WantE Γ M H Q _ from w) _ H (Same.refl H) (by rw [Rp])⟩
    | _ => exact (show False from w).elim) he hm (by decide +kernel) hg (hst := hst) (hpl := hpl)
def negI : D → Res D
  | .int i => .ok (.int (-i))
  | _ => .stuck
theorem de_neg {e : Expr} {f : Env → Res D} {pos : Pos} (he : DE Γ k X W e f) : DE Γ k X W (.UnaryOp .USub e pos) (E.op1 negI f) := fun S => by
  obtain ⟨te, pe, re⟩ := he S
  refine ⟨_, pe_un un_neg pe, fun M0 H0 σ H ρ Q G h => re M0 H0 σ H ρ _ G ((Post.bind h).imp (Same.refl H) fun d w v H1 e1 r => ?_)⟩
  cases d with
  | int i => rw [Rp] at r; exact ⟨i, r, (show WantE Γ _ H Q _ from w) _ H1 e1 (by rw [Rp])⟩
  | _ => exact (show False from w).elim
def gcdI : D → D → Res D := intD fun i j => .ok (.int ((Nat.gcd i.natAbs j.natAbs : Nat) : Int))
/-- gcd(a, b): the module's name for math.gcd -/
theorem de_gcd {a b : Expr} {f g : Env → Res D} {p pos : Pos} (ha : DE Γ k X W a f) (hb : DE Γ k X W b g) (hm : Γ.mg "gcd" = some (.builtin "math.gcd")) (hg : Gl X "gcd" := by rfl)
    (hst : starEach [a, b] X.env = (false, eval a X.env) :: starEach [b] X.env := by rfl) (hst2 : starEach [b] X.env = (false, eval b X.env) :: starEach [] X.env := by rfl) (hpl : (backTo pos (starEach [b] X.env)).any (·.1) = false := by rfl) :
    DE Γ k X W (.Call (.Name "gcd" p) [a, b] [] pos) (E.op2 gcdI f g) := fun S => by
  obtain ⟨ta, pa, ra⟩ := ha S
  obtain ⟨tb, pb, rb⟩ := hb S
  refine ⟨_, pe_callBfun cr_gcd hg (by rw [S.mg]; exact hm) (pa_cons pa (pa_cons pb pa_nil hst2) hst) (he := hst) (hpl := hpl), fun M0 H0 σ H ρ Q G h => ?_⟩
  refine ra M0 H0 σ H ρ _ G ((Post.bind h).imp (Same.refl H) fun d w v H1 e1 r => ?_)
  refine rb M0 H0 σ H1 ρ _ (G.mono e1) ((Post.bind w).imp e1 fun d2 w2 u H2 e2 r2 => ?_)
  cases d <;> cases d2 <;> first | exact (show False from w2).elim | skip
  rw [Rp] at r
  rw [Rp] at r2
  subst r
  subst r2
  exact ⟨_, _, rfl, (show WantE Γ _ H Q _ from w2) _ H2 (e1.trans e2) (by rw [Rp])⟩
/-! ### a chain of two comparisons -/
def E.chain (g g' : D → D → Res D) (f h l : Env → Res D) : Env → Res D := fun ρ => (f ρ).bind fun x => (h ρ).bind fun y => (g x y).bind fun z => match z with
  | .bl true => (l ρ).bind fun w => g' y w
  | .bl false => .ok (.bl false)
  | _ => .stuck
end
set_option Elab.async false
set_option linter.all false
set_option maxRecDepth 100000
set_option maxHeartbeats 4000000
open PySem L2
section
variable {Γ : Gam} {k j : Nat} {X : Cx} {W : WX} {l : Bool}
/-! ### what a for walks -/
theorem WantQ.walk {M : Addr → Prop} {H H1 : Hp} {R : It → Hp → Prop} {ds : List D} {J : It} {vs : List V} {G : Hp → Prop} (w : WantI Γ M H R ds) (e : Same H H1) (r : RpL Γ M H1 ds vs) (wk : Walk J vs.length G (YAt vs)) (hG : ∀ M' H', Imp M M' H1 H' → G H') : R J H1 := by
  rw [r.length] at wk
  refine w J H1 G _ e wk fun M' H' im => ⟨hG M' H' im, fun i x H2 hi y => ?_⟩
  obtain ⟨e2, y⟩ := y
  subst e2
  obtain ⟨v, hv, rv⟩ := (RpL.imp im ds vs r).get (List.getElem?_eq_getElem hi)
  rw [y] at hv
  cases hv
  exact ⟨Same.refl _, _, List.getElem?_eq_getElem hi, rv⟩
theorem di_lst {tg e : Expr} {f : Env → Res D} (he : DE Γ k X W e f) : DI Γ k X W tg e (Z.lst f) := fun S => by
  obtain ⟨te, pe, re⟩ := he S
  refine ⟨_, pi_list pe, fun M0 H0 σ H ρ R G h => re M0 H0 σ H ρ _ G ((Post.bind h).imp (Same.refl H) fun d w v H1 e1 r => ?_)⟩
  cases d with
  | lst ds =>
    rw [Rp] at r
    obtain ⟨a, vs, rfl, t, r⟩ := r
    refine ⟨a, rfl, ⟨vs, by rw [S.K]; exact t.sq⟩, ?_⟩
    exact WantQ.walk (show WantI Γ _ H R ds from w) e1 r walk_list fun M' H' im => by rw [S.K]; exact (t.imp im).sq
  | _ => exact (show False from w).elim
theorem di_tup {tg e : Expr} {f : Env → Res D} (he : DE Γ k X W e f) : DI Γ k X W tg e (Z.tup f) := fun S => by
  obtain ⟨te, pe, re⟩ := he S
  refine ⟨_, pi_tup pe, fun M0 H0 σ H ρ R G h => re M0 H0 σ H ρ _ G ((Post.bind h).imp (Same.refl H) fun d w v H1 e1 r => ?_)⟩
  cases d with
  | tup ds =>
    rw [Rp] at r
    obtain ⟨a, vs, rfl, t, r⟩ := r
    refine ⟨a, rfl, ⟨vs, by rw [S.K]; exact t.sq⟩, ?_⟩
    exact WantQ.walk (show WantI Γ _ H R ds from w) e1 r walk_tup fun M' H' im => by rw [S.K]; exact (t.imp im).sq
  | _ => exact (show False from w).elim
/-- a new list is walked -/
theorem di_df {tg e : Expr} {f : Env → Res (List D)} (he : DF Γ k X W e f) : DI Γ k X W tg e f := fun S => by
  obtain ⟨te, pe, re⟩ := he S
  refine ⟨_, pi_list pe, fun M0 H0 σ H ρ R G h => re M0 H0 σ H ρ _ G (h.imp (Same.refl H) fun ds w p vs H1 h0 e1 h1 r => ?_)⟩
  refine ⟨p, rfl, ⟨vs, SqL.of h1⟩, ?_⟩
  have np : ¬ Mx M0 σ ρ p := fun z => Mx.alive G z h0
  exact WantQ.walk w e1 (RpL.imp (.weak fun a z => .inl z) _ _ r) walk_list fun M' H' im => SqL.of (im p _ h1 np).2
def rngD (lo : Int) (n : Nat) : List D := (List.range n).map fun (i : Nat) => D.int (lo + (i : Int))
namespace E
def rng1 (f : Env → Res D) : Env → Res (List D) := fun ρ => (f ρ).bind fun d => match d with
  | .int j => if -(2 ^ 62) ≤ j ∧ j < 2 ^ 62 then .ok (rngD 0 j.toNat) else .stuck
  | _ => .stuck
def rng2 (f g : Env → Res D) : Env → Res (List D) := fun ρ => (f ρ).bind fun x => (g ρ).bind fun y => match x, y with
  | .int i, .int j => if -(2 ^ 62) ≤ i ∧ i < 2 ^ 62 ∧ -(2 ^ 62) ≤ j ∧ j < 2 ^ 62 then .ok (rngD i (j - i).toNat) else .stuck
  | _, _ => .stuck
end E
theorem rng_walk {M : Addr → Prop} {H H1 : Hp} {R : It → Hp → Prop} {lo : Int} {n : Nat} (w : WantI Γ M H R (rngD lo n)) (e : Same H H1) : R (Itr lo n) H1 := by
  have hl : (rngD lo n).length = n := by unfold rngD; rw [List.length_map, List.length_range]
  refine w (Itr lo n) H1 _ _ e (by rw [hl]; exact walk_range) fun M' H' im => ⟨trivial, fun i x H2 hi y => ?_⟩
  obtain ⟨e2, y⟩ := y
  subst e2
  rw [hl] at hi
  refine ⟨Same.refl _, .int (lo + i), ?_, by rw [Rp]; exact y⟩
  unfold rngD
  rw [List.getElem?_map, List.getElem?_range hi]
  rfl
theorem di_rng1 {tg e : Expr} {f : Env → Res D} {p pos : Pos} (he : DE Γ k X W e f) (hm : Γ.mg "range" = none) (hg : Gl X "range" := by rfl) (hst : starEach [e] X.env = [(false, eval e X.env)] := by rfl) : DI Γ k X W tg (.Call (.Name "range" p) [e] [] pos) (E.rng1 f) := fun S => by
  obtain ⟨te, pe, re⟩ := he S
  have hn : starEach [] X.env = [] := by rfl
  refine ⟨_, pi_range1 hg (by rw [S.mg]; exact hm) (pa_cons pe pa_nil (by rw [hst, hn])) hst, fun M0 H0 σ H ρ R G h => re M0 H0 σ H ρ _ G ((Post.bind h).imp (Same.refl H) fun d w v H1 e1 r => ?_)⟩
  cases d with
  | int i =>
    rw [Rp] at r
    subst r
    dsimp only at w
    split at w
    · rename_i c
      exact ⟨i, rfl, c.1, c.2, rng_walk w e1⟩
    · exact (show False from w).elim
  | _ => exact (show False from w).elim
theorem di_rng2 {tg a b : Expr} {f g : Env → Res D} {p pos : Pos} (ha : DE Γ k X W a f) (hb : DE Γ k X W b g) (hm : Γ.mg "range" = none) (hg : Gl X "range" := by rfl) (hst : starEach [a, b] X.env = [(false, eval a X.env), (false, eval b X.env)] := by rfl)
    (hst2 : starEach [b] X.env = [(false, eval b X.env)] := by rfl) : DI Γ k X W tg (.Call (.Name "range" p) [a, b] [] pos) (E.rng2 f g) := fun S => by
  obtain ⟨ta, pa, ra⟩ := ha S
  obtain ⟨tb, pb, rb⟩ := hb S
  have hn : starEach [] X.env = [] := by rfl
  refine ⟨_, pi_range2 hg (by rw [S.mg]; exact hm) (pa_cons pa (pa_cons pb pa_nil (by rw [hst2, hn])) (by rw [hst, hst2])) hst hst2, fun M0 H0 σ H ρ R G h => ra M0 H0 σ H ρ _ G ((Post.bind h).imp (Same.refl H) fun d w v H1 e1 r => ?_)⟩
  refine rb M0 H0 σ H1 ρ _ (G.mono e1) ((Post.bind w).imp e1 fun d2 w2 u H2 e2 r2 => ?_)
  cases d <;> cases d2 <;> first | exact (show False from w2).elim | skip
  rw [Rp] at r
  rw [Rp] at r2
  subst r
  subst r2
  dsimp only at w2
  split at w2
  · rename_i c
    exact ⟨_, _, rfl, ⟨c.1, c.2.1, c.2.2.1, c.2.2.2⟩, rng_walk w2 (e1.trans e2)⟩
  · exact (show False from w2).elim
/-! ### lists that the slots own are changed -/
namespace S
def app (i : Nat) (f : Env → Res D) : Env → Out := fun ρ => match ρ[i]? with
  | some (.own ds) => lift (f ρ) ρ fun d => if ds.length < sizeLine then .next (List.set ρ i (.own (ds ++ [d]))) else .stuck
  | _ => .stuck
def setAt (i : Nat) (fk fv : Env → Res D) : Env → Out := fun ρ => lift (fv ρ) ρ fun v => match ρ[i]? with
  | some (.own ds) => lift (fk ρ) ρ fun n => (match n with
    | .int n => (match ixN ds.length n with
      | some m => .next (List.set ρ i (.own (ds.set m v)))
      | none => .stuck)
    | _ => .stuck)
  | _ => .stuck
def pop (i : Nat) : Env → Out := fun ρ => match ρ[i]? with
  | some (.own ds) => if ds = [] then .stuck else .next (List.set ρ i (.own ds.dropLast))
  | _ => .stuck
/-- the owned list is a value from now on -/
def freeze (i : Nat) (f : Env → Out) : Env → Out := fun ρ => match ρ[i]? with
  | some (.own ds) => f (List.set ρ i (.val (.lst ds)))
  | _ => .stuck
end S
theorem own_cell {M0 : Bd} {H0 : Hp} {σ : St} {H : Hp} {ρ : Env} {i : Nat} {ds : List D} (G : Gd Γ M0 H0 σ H ρ) (q : ρ[i]? = some (.own ds)) : ∃ p vs, σ[i]? = some (some (.ref p)) ∧ H p = some (.lst vs) ∧ RpL Γ (Mx M0 σ ρ) H ds vs := G.cel i _ q
theorem ds_app (i : Nat) {x : Str} {e : Expr} {f : Env → Res D} {p1 p2 p3 pos : Pos} (he : DE Γ k X W e f) (hN : X.N[i]? = some x := by rfl) (hv : Vis X.env.scope x := by first | exact Or.inl rfl | exact Or.inr (Or.inl rfl) | exact Or.inr (Or.inr rfl))
    (hd : (x == ("__debug__" : Str)) = false := by decide) (hcd : (x == ("__classdict__" : Str)) = false := by decide)
    (hbase : attributeBase (.Name x p1) "append" X.env (eval (.Name x p1) X.env) = eval (.Name x p1) X.env := by rfl)
    (hfew : ((backTo p3 (starEach [e] X.env)).all (fun x => !x.1) && (backToKw p3 (keywordEach [] X.env)).all (fun x => x.1.isSome) && decide ([e].length + ([] : List Keyword).length + (if ([] : List Keyword).isEmpty then 0 else 1) < 30)) = true := by rfl)
    (hline : (p2.endLine == p3.line) = true := by rfl) (hst : starEach [e] X.env = (false, eval e X.env) :: starEach [] X.env := by rfl) (hpl : (backTo p3 (starEach [] X.env)).any (·.1) = false := by rfl)
    (hs : swapsWith (.Call (.Attribute (.Name x p1) "append" p2) [e] [] p3) none pos.line X.env = pure false := by rfl) :
    DS Γ k X W (.Expr (.Call (.Attribute (.Name x p1) "append" p2) [e] [] p3) pos) (S.app i f) := fun St => by
  obtain ⟨te, pe, re⟩ := he St
  refine ⟨_, ps_expr (pe_bm PySem.F.plainAttrs_list PySem.F.slot_list_append PySem.F.type_list_append mt_append (pe_var hN hv hd hcd) (pa_cons pe pa_nil hst) hbase hfew hline hst hpl) hs, fun M0 H0 σ H ρ Dn G h => ?_⟩
  unfold S.app at h
  cases q : ρ[i]? with
  | none => rw [q] at h; exact h.elim
  | some c =>
    rw [q] at h
    cases c with
    | own ds =>
      dsimp only at h
      obtain ⟨p, vs, a1, a2, a3⟩ := own_cell G q
      refine ⟨.ref p, a1, .inl ⟨rfl, vs, SqL.of a2⟩, re M0 H0 σ H ρ _ G ((lift_post G h).imp (Same.refl H) fun d w v H1 e1 r => ?_)⟩
      split at w
      · rename_i hl
        exact ⟨p, vs, v, rfl, rfl, e1 _ _ a2, by rw [a3.length]; exact hl, w σ _ ((G.mono e1).mut q a1 ((a3.mono e1).append (.cons r .nil)))⟩
      · exact (show False from w).elim
    | no => exact h.elim
    | val d => exact h.elim
    | ins c fs => exact h.elim
theorem ds_setAt (i : Nat) {x : Str} {ek wp_walk : Expr} {fk fv : Env → Res D} {p1 p2 pos : Pos} (hv' : DE Γ k X W wp_walk fv) (hk' : DE Γ k X W ek fk) (hN : X.N[i]? = some x := by rfl) (hv : Vis X.env.scope x := by first | exact Or.inl rfl | exact Or.inr (Or.inl rfl) | exact Or.inr (Or.inr rfl))
    (hd : (x == ("__debug__" : Str)) = false := by decide) (hcd : (x == ("__classdict__" : Str)) = false := by decide)
    (hs : swapsWithSole [.Subscript (.Name x p1) ek p2] wp_walk pos.line X.env = pure false := by rfl) (hw : swappedStores [.Subscript (.Name x p1) ek p2] wp_walk X.env = pure none := by rfl) (hes : (assignEach [.Subscript (.Name x p1) ek p2] X.env).map (·.2) = [assign (.Subscript (.Name x p1) ek p2) X.env] := by rfl)
    (ha : ∀ v, assign (.Subscript (.Name x p1) ek p2) X.env v = (do
      let r ← holding [v] (eval (.Name x p1) X.env)
      let n ← holding [v, r] (eval ek X.env)
      standAt p2
      holding [v, r, n] (setItem r n v)
      release [v, r, n] []) := by intro _; rfl) : DS Γ k X W (.Assign [.Subscript (.Name x p1) ek p2] wp_walk pos) (S.setAt i fk fv) := fun S => by
  obtain ⟨tk, pk, rk⟩ := hk' S
  obtain ⟨tv, pv', rv⟩ := hv' S
  refine ⟨_, ps_asg pv' (pg_sub (pe_var hN hv hd hcd) pk set_list ha) hs hw hes, fun M0 H0 σ H ρ Dn G h => ?_⟩
  refine rv M0 H0 σ H ρ _ G ((lift_post G h).imp (Same.refl H) fun d w v H1 e1 r => ?_)
  have G1 := G.mono e1
  cases q : ρ[i]? with
  | none => rw [q] at w; exact w.elim
  | some c =>
    rw [q] at w
    cases c with
    | own ds =>
      dsimp only at w
      obtain ⟨p, vs, a1, a2, a3⟩ := own_cell G1 q
      refine ⟨.ref p, a1, rk M0 H0 σ H1 ρ _ G1 ((lift_post G1 w).imp (Same.refl H1) fun d2 w2 u H2 e2 r2 => ?_)⟩
      cases d2 with
      | int n =>
        dsimp only at w2
        cases z : ixN ds.length n with
        | none => rw [z] at w2; exact w2.elim
        | some m =>
          rw [z] at w2
          rw [Rp] at r2
          subst r2
          exact ⟨p, vs, n, m, rfl, rfl, e2 _ _ a2, by rw [a3.length]; exact z, w2 σ _ ((G1.mono e2).mut q a1 ((a3.mono e2).set m (r.mono e2)))⟩
      | _ => exact (show False from w2).elim
    | no => exact w.elim
    | val d => exact w.elim
    | ins c fs => exact w.elim
theorem ds_pop (i : Nat) {x : Str} {p1 p2 p3 pos : Pos} (hN : X.N[i]? = some x := by rfl) (hv : Vis X.env.scope x := by first | exact Or.inl rfl | exact Or.inr (Or.inl rfl) | exact Or.inr (Or.inr rfl))
    (hd : (x == ("__debug__" : Str)) = false := by decide) (hcd : (x == ("__classdict__" : Str)) = false := by decide)
    (hbase : attributeBase (.Name x p1) "pop" X.env (eval (.Name x p1) X.env) = eval (.Name x p1) X.env := by rfl) (hline : (p2.endLine == p3.line) = true := by rfl)
    (hs : swapsWith (.Call (.Attribute (.Name x p1) "pop" p2) [] [] p3) none pos.line X.env = pure false := by rfl) :
    DS Γ k X W (.Expr (.Call (.Attribute (.Name x p1) "pop" p2) [] [] p3) pos) (S.pop i) := fun St => by
  refine ⟨_, ps_expr (pe_bm0 PySem.F.plainAttrs_list PySem.F.slot_list_pop PySem.F.type_list_pop mt_pop (pe_var hN hv hd hcd) hbase hline) hs, fun M0 H0 σ H ρ Dn G h => ?_⟩
  unfold S.pop at h
  cases q : ρ[i]? with
  | none => rw [q] at h; exact h.elim
  | some c =>
    rw [q] at h
    cases c with
    | own ds =>
      dsimp only at h
      split at h
      · exact (show False from h).elim
      · rename_i hne
        obtain ⟨p, vs, a1, a2, a3⟩ := own_cell G q
        have hl : 0 < vs.length := by rw [a3.length]; exact List.length_pos_iff.mpr hne
        refine ⟨.ref p, a1, .inl ⟨rfl, vs, SqL.of a2⟩, p, vs, vs[vs.length - 1]'(by omega), rfl, rfl, a2, List.getElem?_eq_getElem _, h σ _ (G.mut q a1 ?_)⟩
        have ed : vs.dropLast = vs.take (ds.length - 1) := by rw [← a3.length, List.dropLast_eq_take]
        rw [ed, List.dropLast_eq_take]
        exact a3.take _
    | no => exact h.elim
    | val d => exact h.elim
    | ins c fs => exact h.elim
/-- an owned list is a value from now on -/
theorem Gd.freeze {M0 : Bd} {H0 : Hp} {σ : St} {H : Hp} {ρ : Env} {i : Nat} {ds : List D} (G : Gd Γ M0 H0 σ H ρ) (q : ρ[i]? = some (.own ds)) : Gd Γ M0 H0 σ H (List.set ρ i (.val (.lst ds))) := by
  obtain ⟨p, vs, a1, a2, a3⟩ := own_cell G q
  have hi : i < ρ.length := (List.getElem?_eq_some_iff.mp q).1
  have es : σ = σ.set i (some (.ref p)) := by
    apply List.ext_getElem?
    intro n
    by_cases z : i = n
    · subst z
      rw [List.getElem?_set_self (by rw [G.len]; exact hi), a1]
    · rw [List.getElem?_set_ne z]
  have own : ∀ {j a}, OwnAt σ (List.set ρ i (.val (.lst ds))) j a → OwnAt σ ρ j a ∧ j ≠ i := fun {j a} h => by
    rw [es] at h
    have h2 := own_set_val h
    exact h2
  have sub : ∀ a, Mx M0 σ (List.set ρ i (.val (.lst ds))) a → Mx M0 σ ρ a := fun a h => h.elim .inl fun ⟨j, z⟩ => .inr ⟨j, (own z).1⟩
  refine ⟨by rw [List.length_set, G.len], G.ext, G.m0, fun n c e => ?_, fun n a h => G.new n a (own h).1, fun n m a h1 h2 => G.inj n m a (own h1).1 (own h2).1⟩
  by_cases z : i = n
  · subst z
    rw [List.getElem?_set_self hi] at e
    cases e
    refine ⟨.ref p, a1, ?_⟩
    rw [Rp]
    refine ⟨p, vs, rfl, .inl ⟨.inl a2, fun w => ?_⟩, RpL.imp (.weak sub) _ _ a3⟩
    rcases w with w | ⟨j, w⟩
    · have := G.new i p ⟨_, q, rfl, a1⟩
      exact G.m0 p w this
    · exact (own w).2 (G.inj j i p (own w).1 ⟨_, q, rfl, a1⟩)
  · rw [List.getElem?_set_ne z] at e
    exact COk.imp (.weak sub) (fun _ _ _ _ h => h) (G.cel n c e)
theorem dss_freeze (i : Nat) {s : List Stmt} {f : Env → Out} (h : DSs Γ k X W s f) : DSs Γ k X W s (S.freeze i f) := fun St => by
  obtain ⟨ts, ps, r⟩ := h St
  refine ⟨ts, ps, fun M0 H0 σ H ρ Dn G h => ?_⟩
  unfold S.freeze at h
  cases q : ρ[i]? with
  | none => rw [q] at h; exact h.elim
  | some c =>
    rw [q] at h
    cases c with
    | own ds => exact r M0 H0 σ H _ Dn (G.freeze q) h
    | no => exact h.elim
    | val d => exact h.elim
    | ins c fs => exact h.elim
end
set_option Elab.async false
set_option linter.all false
set_option maxRecDepth 100000
set_option maxHeartbeats 4000000
open PySem L2
namespace S
def raise (c : Nat) : Env → Out := fun ρ => .exc ⟨c, []⟩ ρ
/-- try: b, except: g; sub: is an exception of that class caught -/
def tryO (sub : Nat → Option Bool) (b g : Env → Out) : Env → Out := fun ρ => match b ρ with
  | .exc x ρ' => (match sub x.c with
    | some true => (match g ρ' with
      | .exc _ _ => .stuck
      | o => o)
    | some false => .exc x ρ'
    | none => .stuck)
  | o => o
/-- self.f = e in an __init__ -/
def fld (i c : Nat) (n : Nat) (f : Env → Res D) : Env → Out := fun ρ => lift (f ρ) ρ fun d => match ρ[i]? with
  | some (.ins c' fs) => if c' = c ∧ fs.length = n ∧ n < 1000 then .next (List.set ρ i (.ins c (fs ++ [d]))) else .stuck
  | _ => .stuck
end S
section
variable {Γ : Gam} {k j : Nat} {X : Cx} {W : WX} {l : Bool}
/-! ### raise C("..") -/
structure ExcOk (Γ : Gam) (c : Nat) (x : Str) : Prop where
  mg : Γ.mg x = some (.ref (Γ.cls c))
  ex : PySem.W.excIn Γ.K (Γ.cls c) He.veBase "ValueError.__new__" = true
  kp : PySem.W.keepIn Γ.K (.ref (Γ.cls c)) = true
  sb : PySem.W.subIn Γ.K (.ref (Γ.cls c)) (.type "BaseException") = some true
  ty : PySem.W.typeIn Γ.K (.ref (Γ.cls c)) = some (.type "type")
theorem ds_raise {c : Nat} {x m : Str} {i : Nat} {p p2 p3 pos : Pos} (O : ExcOk Γ c x) (hk : 0 < k := by first | decide | omega) (hg : Gl X x := by rfl) (hdb : (x == ("__debug__" : Str)) = false := by decide) :
    DS Γ k X W (.Raise (some (.Call (.Name x p) [.Constant (.str m) i p2] [] p3)) none pos) (S.raise c) := fun S => by
  refine ⟨_, ps_raise (S.calm hk) S.takes (pmk_own PySem.F.excBase_ValueError (by rw [S.K]; exact O.ex) (by rw [S.mg]; exact O.mg) (by rw [S.K]; exact O.kp) (raises_own (by rw [S.K]; exact O.sb) (by rw [S.K]; exact O.ty)) hg hdb), fun M0 H0 σ H ρ Dn G h => ?_⟩
  exact h _ _ σ H G ⟨rfl, rfl⟩
/-! ### one reading for all contexts -/
def canS (Γ : Gam) (f : Env → Out) (W : WX) : TS := fun D σ H => ∃ (M0 : Bd) (H0 : Hp) (ρ : Env), Gd Γ M0 H0 σ H ρ ∧ PostS Γ M0 H0 W D (f ρ)
theorem DSs.can {s : List Stmt} {f : Env → Out} (h : DSs Γ k X W s f) (S : Sit Γ k X W) : PSs X s (canS Γ f W) := by
  obtain ⟨ts, ps, r⟩ := h S
  exact ⟨fun pins s σ H D I ⟨M0, H0, ρ, G, q⟩ => ps.run pins s σ H D I (r M0 H0 σ H ρ D G q)⟩
abbrev W0 : WX := fun _ _ _ _ => False
theorem Sit.tr (S : Sit Γ k X W) (hk : 0 < k) {W' : WX} {pn : List (Addr × Obj)} {xe : Value → Shared → Prop} (tk : Takes (X.tr pn xe) W') (pas : PassesOwn (model X.prog X.w) X.A X.env xe) : Sit Γ k (X.tr pn xe) W' :=
  ⟨S.P, S.w, S.K, S.mg, S.base, S.room, S.calm, tk, pas, S.nd, S.seer, S.ns⟩
theorem Sit.suite (S : Sit Γ k X W) (a : Addr) (pn : List (Addr × Obj)) : Sit Γ 0 (X.suite a pn) W0 :=
  ⟨S.P, S.w, S.K, S.mg, S.base, fun z => absurd z (Nat.lt_irrefl 0), fun z => absurd z (Nat.lt_irrefl 0), takes0, PassesOwn.never, S.nd, fun z => absurd z (Nat.lt_irrefl 0), S.ns⟩
/-- the clause's class, against the classes that are raised -/
structure CatchOk (Γ : Gam) (c : Value) (sub : Nat → Option Bool) : Prop where
  ok : ∀ t b, sub t = some b → PySem.W.exmOne Γ.K (.ref (Γ.cls t)) c = some b
theorem ds_try {x : Str} {c : Value} {sub : Nat → Option Bool} {body suite : List Stmt} {b₀ : Stmt} {b g : Env → Out} {np pos pos' : Pos} (hs : X.stack = X.env :: X.outer) (hf : X.env.frame = some X.env.locals) (O : CatchOk Γ c sub) (hc : Sit Γ k X W → Names X x c)
    (hb : ∀ (W' : WX) (pn : List (Addr × Obj)) (xe : Value → Shared → Prop), DSs Γ k (X.tr pn xe) W' body b) (hsu : ∀ (a : Addr) (pn : List (Addr × Obj)), DSs Γ 0 (X.suite a pn) W0 (b₀ :: suite) g) (hk : 0 < k := by first | decide | omega) :
    DS Γ k X W (.Try body [.ExceptHandler (some (.Name x np)) none (b₀ :: suite) pos'] [] [] pos) (S.tryO sub b g) := fun St => by
  refine ⟨_, ps_try_only (tb := canS Γ b) (ts := fun _ _ _ => canS Γ g W0) hs hf (hc St) St.takes (fun W' pn xe tk pas => (hb W' pn xe).can (St.tr hk tk pas)) (fun a oe cls d pn _ _ => (hsu a ((a, oe) :: pn)).can (St.suite a _)), fun M0 H0 σ H ρ Dn G h => ?_⟩
  refine ⟨M0, H0, ρ, G, ?_⟩
  unfold S.tryO at h
  cases q : b ρ with
  | exc y ρ' =>
    rw [q] at h
    intro cv dd σ' H' G' r
    dsimp only at h
    obtain ⟨r1, r2⟩ := id r
    cases z : sub y.c with
    | none => rw [z] at h; exact h.elim
    | some t =>
      rw [z] at h
      refine ⟨t, by rw [r1, St.K]; exact O.ok _ _ z, fun e a _ => ?_, fun e => ?_⟩
      · subst e
        refine ⟨M0, H0, ρ', G', ?_⟩
        dsimp only at h
        cases z2 : g ρ' with
        | exc _ _ => rw [z2] at h; exact h.elim
        | stuck => rw [z2] at h; exact h
        | next ρ' => rw [z2] at h; exact h
        | ret d => rw [z2] at h; exact h
        | retF d => rw [z2] at h; exact h
        | brk d => rw [z2] at h; exact h
        | cnt d => rw [z2] at h; exact h
      · subst e
        exact h cv dd σ' H' G' r
  | stuck => rw [q] at h; exact h
  | next ρ' => rw [q] at h; exact h
  | ret d => rw [q] at h; exact h
  | retF d => rw [q] at h; exact h
  | brk d => rw [q] at h; exact h
  | cnt d => rw [q] at h; exact h
theorem names_glob {x : Str} {c : Value} (hm : Γ.mg x = some c) (hg : Gl X x := by rfl) (hdb : (x == ("__debug__" : Str)) = false := by decide) : Sit Γ k X W → Names X x c := fun S => ⟨hg, hdb, .inl (by rw [S.mg]; exact hm)⟩
/-! ### a field is stored -/
theorem putF_new : ∀ {us : List (Str × V)} {l : List Str} {m : Str} {v : V}, us.map (·.1) = l.take us.length → l.Nodup → l[us.length]? = some m → putF m v us = us ++ [(m, v)] ∧ (us ++ [(m, v)]).map (·.1) = l.take (us.length + 1)
  | [], l, m, v, _, _, h => by
    refine ⟨rfl, ?_⟩
    cases l with
    | nil => simp at h
    | cons y ys => simp at h; simp [h]
  | (n, u) :: us, l, m, v, e, nd, h => by
    cases l with
    | nil => simp at h
    | cons y ys =>
      simp only [List.map_cons, List.length_cons, List.take_succ_cons, List.cons.injEq] at e
      obtain ⟨rfl, e⟩ := e
      have nd' := List.nodup_cons.mp nd
      have h' : ys[us.length]? = some m := by simpa using h
      obtain ⟨h1, h2⟩ := putF_new (v := v) e nd'.2 h'
      have ne : ¬ n = m := fun q => nd'.1 (by rw [q]; exact List.mem_of_getElem? h')
      constructor
      · show (if n = m then (n, v) :: us else (n, u) :: putF m v us) = _
        rw [if_neg ne, h1]
        rfl
      · simp only [List.cons_append, List.map_cons, List.length_cons, List.take_succ_cons, h2]
theorem Gd.fld {M0 : Bd} {H0 : Hp} {σ : St} {H : Hp} {ρ : Env} {i c : Nat} {fs : List D} {d : D} {v : V} {us : List (Str × V)} {m : Str} (G : Gd Γ M0 H0 σ H ρ) (q : ρ[i]? = some (.ins c fs)) (hs : σ[i]? = some (some (.ref M0.x))) (hn : (us ++ [(m, v)]).map (·.1) = (Γ.fld c).take (us.length + 1))
    (r : RpL Γ (Mx M0 σ ρ) H fs (us.map (·.2))) (rv : Rp Γ (Mx M0 σ ρ) H d v) : Gd Γ M0 H0 σ (upd H M0.x (.ins (Γ.cls c) M0.dx (us ++ [(m, v)]))) (List.set ρ i (.ins c (fs ++ [d]))) := by
  have hi : i < ρ.length := (List.getElem?_eq_some_iff.mp q).1
  have own : OwnAt σ ρ i M0.x := ⟨_, q, rfl, hs⟩
  have same : ∀ n a, OwnAt σ (List.set ρ i (.ins c (fs ++ [d]))) n a → OwnAt σ ρ n a := fun n a ⟨e, h1, h2, h3⟩ => by
    by_cases z : i = n
    · subst z
      exact ⟨_, q, rfl, h3⟩
    · rw [List.getElem?_set_ne z] at h1
      exact ⟨e, h1, h2, h3⟩
  have sub : ∀ a, Mx M0 σ (List.set ρ i (.ins c (fs ++ [d]))) a → Mx M0 σ ρ a := fun a h => h.elim .inl fun ⟨n, z⟩ => .inr ⟨n, same n a z⟩
  have imp : Imp (Mx M0 σ ρ) (Mx M0 σ (List.set ρ i (.ins c (fs ++ [d])))) H (upd H M0.x (.ins (Γ.cls c) M0.dx (us ++ [(m, v)]))) := fun a o e n => ⟨fun z => n (sub a z), by
    rw [upd_ne fun z => n (by rw [z]; exact .inr ⟨i, own⟩)]
    exact e⟩
  refine ⟨by rw [List.length_set, G.len], fun a o e => ?_, G.m0, fun n e h => ?_, fun n a h => G.new n a (same n a h), fun n n2 a h1 h2 => G.inj n n2 a (same n a h1) (same n2 a h2)⟩
  · rw [upd_ne fun z => by rw [z, G.new i _ own] at e; cases e]
    exact G.ext a o e
  · by_cases z : i = n
    · subst z
      rw [List.getElem?_set_self hi] at h
      cases h
      refine ⟨us ++ [(m, v)], hs, upd_same, ?_, ?_⟩
      · rw [List.length_append]
        exact hn
      · rw [List.map_append]
        exact (RpL.imp imp _ _ r).append (.cons (Rp.imp imp d v rv) .nil)
    · rw [List.getElem?_set_ne z] at h
      refine COk.imp imp (fun a e1 e2 o e3 => ?_) (G.cel n e h)
      rw [upd_ne fun e4 => z (G.inj i n _ own ⟨e, h, e2, by rw [e1, e4]⟩)]
      exact e3
theorem ds_fld (i : Nat) {c n : Nat} {x m y : Str} {e : Expr} {f : Env → Res D} {p p2 pos : Pos} (K : ClsOk Γ c y) (L : FldOk Γ c n m) (he : DE Γ k X W e f) (hN : X.N[i]? = some x := by rfl) (hv : Vis X.env.scope x := by first | exact Or.inl rfl | exact Or.inr (Or.inl rfl) | exact Or.inr (Or.inr rfl))
    (hd : (x == ("__debug__" : Str)) = false := by decide) (hcd : (x == ("__classdict__" : Str)) = false := by decide) (hs : swapsWith e (some (.Attribute (.Name x p) m p2)) pos.line X.env = pure false := by rfl) :
    DS Γ k X W (.Assign [.Attribute (.Name x p) m p2] e pos) (S.fld i c n f) := fun St => by
  obtain ⟨te, pe, re⟩ := he St
  refine ⟨_, ps_fld (pe_var hN hv hd hcd) pe hs, fun M0 H0 σ H ρ Dn G h => ?_⟩
  refine re M0 H0 σ H ρ _ G ((lift_post G h).imp (Same.refl H) fun d w v H1 e1 r => ?_)
  have G1 := G.mono e1
  cases q : ρ[i]? with
  | none => rw [q] at w; exact w.elim
  | some cc =>
    rw [q] at w
    cases cc with
    | ins c' fs =>
      dsimp only at w
      split at w
      · rename_i hc
        obtain ⟨rfl, hl, hn⟩ := hc
        obtain ⟨us, a1, a2, a3, a4⟩ := G1.cel i _ q
        have hu : us.length = n := by
          have z := a4.length
          rw [List.length_map] at z
          omega
        obtain ⟨b1, b2⟩ := putF_new (v := v) a3 L.nd (by rw [hu]; exact L.at_)
        refine ⟨.ref M0.x, a1, M0.x, Γ.cls c', M0.dx, us, rfl, a2, by rw [St.K]; exact K.cl, by rw [St.K]; exact L.no, by omega, ?_⟩
        show Dn.nx σ (upd H1 M0.x (.ins (Γ.cls c') M0.dx (putF m v us)))
        rw [b1]
        exact w σ _ (G1.fld q a1 b2 a4 r)
      · exact (show False from w).elim
    | no => exact w.elim
    | val d => exact w.elim
    | own ds => exact w.elim
/-! ### a < b < c of ints -/
theorem de_chain {op op' : CmpOp} {a b c : Expr} {f h m : Env → Res D} {g g' : D → D → Res D} {pos : Pos} (o : OpD Γ k X W (compareOp op) g) (n : ∀ x y z, g x y ≠ .exc z) (o' : OpD Γ k X W (compareOp op') g') (n' : ∀ x y z, g' x y ≠ .exc z) (ha : DE Γ k X W a f) (hb : DE Γ k X W b h) (hc : DE Γ k X W c m)
    (hm : lastMarks [op, op'] [b, c] = false := by with_unfolding_all rfl) : DE Γ k X W (.Compare a [op, op'] [b, c] pos) (E.chain g g' f h m) := fun S => by
  obtain ⟨ta, pa, ra⟩ := ha S
  obtain ⟨tb, pb, rb⟩ := hb S
  obtain ⟨tc, pc, rc⟩ := hc S
  obtain ⟨r, or, rr⟩ := o S
  obtain ⟨r', or', rr'⟩ := o' S
  refine ⟨_, pe_chain or or' pa pb pc hm, fun M0 H0 σ H ρ Q G q => ?_⟩
  refine ra M0 H0 σ H ρ _ G ((Post.bind q).imp (Same.refl H) fun x w v H1 e1 r1 => ?_)
  have G1 := G.mono e1
  refine rb M0 H0 σ H1 ρ _ G1 ((Post.bind w).imp e1 fun y w2 u H2 e2 r2 => ?_)
  have G2 := G1.mono e2
  refine rr (Mx M0 σ ρ) H2 v u x y _ (fun a z => Mx.alive G2 z) (r1.mono e2) r2 (no_exc ((Post.bind w2).imp (e1.trans e2) fun z w3 v3 H3 e3 r3 => ?_) (n x y))
  cases z with
  | bl t =>
    rw [Rp] at r3
    refine ⟨t, r3, ?_⟩
    have e := (e1.trans e2).trans e3
    cases t with
    | true =>
      rw [if_pos rfl]
      refine rc M0 H0 σ H3 ρ _ (G2.mono e3) ((Post.bind (show Post Γ W σ H ((m ρ).bind fun w => g' y w) _ from w3)).imp e fun z4 w4 v4 H4 e4 r4 => ?_)
      exact rr' (Mx M0 σ ρ) H4 u v4 y z4 Q (fun a z => Mx.alive ((G2.mono e3).mono e4) z) ((r2.mono e3).mono e4) r4 (no_exc (w4.imp (e.trans e4) fun d z => z.back (e.trans e4)) (n' y z4))
    | false =>
      rw [if_neg Bool.false_ne_true]
      exact (show WantE Γ _ H Q (.bl false) from w3) _ H3 e (by rw [Rp])
  | _ => exact (show False from w3).elim
/-! ### properties -/
structure CalP (Γ : Gam) (j : Nat) (c : Nat) (m : Str) (g : List D → Res D) : Prop where
  ex : ∃ p f, PropOf Γ.K (Γ.cls c) m p f ∧ Cal Γ j f g
def E.prop (c : Nat) (g : List D → Res D) (f : Env → Res D) : Env → Res D := fun ρ => (f ρ).bind fun x => match x with
  | .obj c' fs => if c' = c then (match g [.obj c fs] with
    | .ok d => .ok d
    | _ => .stuck) else .stuck
  | _ => .stuck
theorem de_prop {m x : Str} {a : Expr} {pos : Pos} {c : Nat} {f : Env → Res D} {g : List D → Res D} (K : ClsOk Γ c x) (C : CalP Γ j c m g) (ha : DE Γ k X W a f) (hk : 0 < k := by first | decide | omega) (hj : j + 1 ≤ k := by first | decide | omega) (hb : attributeBase a m X.env (eval a X.env) = eval a X.env := by rfl) :
    DE Γ k X W (.Attribute a m pos) (E.prop c g f) := fun S => by
  obtain ⟨ta, pa, ra⟩ := ha S
  obtain ⟨p, fn, pr, cal⟩ := C.ex
  obtain ⟨fd, ps, dvs, ds, dd, n, g', h1, h2, h3, h4, h5, h6⟩ := cal.ex
  have F : FnOk X.prog X.w X.K X.mg X.base (L2.CX X.prog X.w) j fn fd ps (spD Γ n g') := by rw [S.P, S.w, S.K, S.mg, S.base]; exact h3
  refine ⟨_, pe_prop pa (by rw [S.K]; exact K.cl) (by rw [S.K]; exact pr) F (S.room' hk hj) (by rw [S.K]; exact h2) h1 passL hb, fun M0 H0 σ H ρ Q G q => ?_⟩
  refine ra M0 H0 σ H ρ _ G ((Post.bind q).imp (Same.refl H) fun d w v H1 e1 r => ?_)
  cases d with
  | obj c' fs =>
    dsimp only at w
    split at w
    · rename_i e
      subst e
      have r' := r
      obtain ⟨a, dx, us, rfl, b1, _⟩ := obj_at r'
      refine ⟨a, dx, us, rfl, b1, Mx M0 σ ρ, [.obj c' fs] ++ dd, ?_, fun a z => Mx.alive (G.mono e1) z, (RpL.cons r .nil).append (h4 _ H1), ?_⟩
      · apply Decidable.byContradiction
        intro z
        have := h5 _ z
        rw [h6, this] at w
        exact w
      · rw [← h6]
        cases z : g [.obj c' fs] with
        | ok d => rw [z] at w; exact WantE.back e1 w
        | stuck => rw [z] at w; exact w.elim
        | exc x => rw [z] at w; exact w.elim
    · exact w.elim
  | _ => exact (show False from w).elim
end
set_option Elab.async false
set_option linter.all false
set_option maxRecDepth 100000
set_option maxHeartbeats 4000000
open PySem L2
section
variable {prog : Program} {w : World} {A : Around} {E : Value → Shared → Prop} {s : Shared} {K : PySem.W.Frag} {x C L f : Addr} {h0 : Heap} {m : Str → Option Value} {ox : Obj} {od : Option Obj} {b tb : Value}
open PySem.W in
theorem bound_builtin {M : Model} {name : Str} {id : String} {args : List Value} {Q : Option Value → Shared → Prop} (KX : K.In s.heap) (I : InstAt s.heap x ox C od) (hs : findIn K (.ref C) name = some (some (.builtin id))) (hb : ∀ v, bindSpecial (.builtin id) v = pure (.builtin id, [v]))
    (hq : wpAny M A (call (.builtin id) (.ref x :: args)) (fun v => Q (some v)) E s) : wpAny M A (callSpecialIfBound? (.ref x) name args) Q E s := by
  unfold callSpecialIfBound? bindSpecialIfBound?
  refine wpAny_holding (wpAny_bind (wpAny_bind (wpAny_bind (I.type.here ((looks_findIn KX hs).here ?_)))))
  dsimp only
  rw [hb]
  have last : wpAny M A (call (.builtin id) ([Value.ref x] ++ args) >>= fun v => pure (some v)) Q E s := wpAny_bind (wpAny_mono hq (fun v t z => wpAny_pure z) fun _ _ z => z)
  refine wpAny_bind (wpAny_askSetting (wpAny_ite ?_))
  split
  · exact wpAny_bind (wpAny_pure (wpAny_pure last))
  · exact wpAny_tryCatch (wpAny_bind (wpAny_pure (wpAny_pure last)))
open PySem.W in
theorem own_ne {Q : Bool → Shared → Prop} (hu : A.units + 1 < cLine) (F : PyProof.Rows.Fr h0 L s.heap m) (KX : K.In h0) (I : InstAt s.heap x ox C od) (hb : Looks (model prog w) s.heap (typeOf b) tb) (hn : notFirst K C tb = true)
    (hne : findIn K (.ref C) "__ne__" = some (some (.builtin "object.__ne__"))) (heq : findIn K (.ref C) "__eq__" = some (some (.ref f))) (hf : isFn K (.ref f) = true) (hm : mroIn K C (.type "object") = some true)
    (hq : wpAny (model prog w) A.in1 (call (.ref f) [.ref x, b]) (fun v s' => ∃ r, v = .bool r ∧ Q (!r) s') E s) : wpAny (model prog w) A (richCompare .NotEq (.ref x) b) (fun v s' => ∃ r, v = .bool r ∧ Q r s') E s := by
  have X2 := KX.keeps F.keep
  have entry : wpAny (model prog w) A (call (.builtin "object.__ne__") [.ref x, b]) (fun v s' => ∃ r, v = .bool r ∧ Q r s') E s := by
    refine wpAny_call (codeAny_call_builtin PySem.F.cmp_object.ne.plain PySem.F.cmpEntry_ne (@check_slot (model prog w) _ _ s "object.__ne__" "object" "__ne__" (.ref x) [b] [] _ PySem.F.cmpKind_ne PySem.F.cmpSplit_ne (I.type.andThen (looks_mroIn X2 hm)) (PySem.F.cmpArgs_ne _ _) ?_))
    unfold Builtin.«object.__ne__»
    refine wpAny_bind (wpAny_of_eq (a := ((Value.ref x : Value), [b])) (by first | rfl | (simp only [Builtin.slotArgs]; rfl)) ?_)
    dsimp only
    refine wpAny_bind (wpAny_cRoomFor hu (wpAny_bind (ifBound_K X2 I heq hf (wpAny_mono hq (fun v s' z => ?_) fun _ _ z => z))))
    obtain ⟨r, rfl, z⟩ := z
    dsimp only
    exact wpAny_bind (wpAny_truthy_bool (wpAny_pure ⟨_, rfl, z⟩))
  have one : wpAny (model prog w) A (tryCompare (.ref x) "__ne__" b) (fun r s' => ∃ v, r = some (.bool v) ∧ Q v s') E s := by
    unfold tryCompare
    refine wpAny_bind (bound_builtin X2 I hne (fun v => PySem.F.cmp_object.ne.bind v) (wpAny_mono entry (fun v s' z => ?_) fun _ _ z => z))
    obtain ⟨r, rfl, z⟩ := z
    exact wpAny_pure ⟨r, rfl, z⟩
  unfold richCompare
  simp only [oneThing_ref]
  refine wpAny_holding (wpAny_bind (wpAny_cRoomFor (Nat.lt_of_succ_lt hu) ?_))
  refine wpAny_bind (I.type.here (wpAny_bind (hb.here ?_)))
  split
  · rename_i q
    have e : subIn K tb (.ref C) = some false := by
      rcases Bool.or_eq_true_iff.mp hn with e | e
      · rw [beq_iff_eq.mp e] at q
        simp at q
      · exact beq_iff_eq.mp e
    refine wpAny_bind ((looks_subIn X2 e).here ?_)
    simp only [Bool.false_eq_true, if_false]
    refine wpAny_bind (wpAny_mono one (fun r s' z => ?_) fun _ _ z => z)
    obtain ⟨v, rfl, z⟩ := z
    exact wpAny_pure ⟨v, rfl, z⟩
  · refine wpAny_bind (wpAny_pure ?_)
    simp only [Bool.false_eq_true, if_false]
    refine wpAny_bind (wpAny_mono one (fun r s' z => ?_) fun _ _ z => z)
    obtain ⟨v, rfl, z⟩ := z
    exact wpAny_pure ⟨v, rfl, z⟩
end
section
variable {Γ : Gam} {k j : Nat} {X : Cx} {W : WX}
/-- a callee run somewhere below the body -/
theorem Cal.runA {f : Addr} {g : List D → Res D} (C : Cal Γ j f g) (S : Sit Γ k X W) {A : Around} (hfr : A.frames = X.A.frames) (rm : Room j A) {pins : List (Addr × Obj)} {σ : St} {H : Hp} {s : Shared} {Q : VK} {us : List Value} {vs : List V} {M : Addr → Prop} {as : List D}
    (I : Inv X pins σ H s) (rv : Vals vs us) (hM : ∀ a, M a → H a ≠ none) (r : RpL Γ M H as vs) (h : Post Γ W σ H (g as) (WantE Γ M H Q)) : wpAny (model X.prog X.w) A (call (.ref f) us) (EP X pins σ Q) X.xe s := by
  obtain ⟨fd, ps, dvs, ds, dd, n, g', h1, h2, h3, h4, h5, h6⟩ := C.ex
  rw [h6] at h
  have F : FnOk X.prog X.w X.K X.mg X.base (L2.CX X.prog X.w) j f fd ps (spD Γ n g') := by rw [S.P, S.w, S.K, S.mg, S.base]; exact h3
  have hb : Binds X.K fd ps ds := by rw [S.K]; exact h2
  have hsp := spD_of (Q := Q) h5 hM (r.append (h4 M H)) h
  have rv2 := rv.append h1
  have hl : (us ++ ds).length = ps.length := by rw [← rv2.length]; exact F.len _ _ _ _ hsp
  have e0 : Env0 X.prog X.w X.K X.mg X.base A X.stack s H := by
    have e := I.env0
    exact ⟨hfr.trans e.frames, e.mod, e.bs, e.bsz, e.funs, e.frf, e.hok, e.bare⟩
  refine wpAny_call (codeAny_mono (F.run A X.stack s H ⟨us, []⟩ (us ++ ds) (vs ++ dvs) Q (WE W σ) rm e0 (hb s us I.kIn hl) rv2 hsp) fun r s' hq => ?_)
  cases r with
  | error e => exact passAt S.takes σ pins _ _ e s' I hq
  | ok fl =>
    cases fl with
    | ret u => exact I.after hq
    | next => exact False.elim hq
    | brk => exact False.elim hq
    | cont => exact False.elim hq
/-- the class c has its own == ; tst: the data it is compared with -/
structure EqOk (Γ : Gam) (j : Nat) (c : Nat) (g : List D → Res D) (ok : D → Bool) : Prop where
  ex : ∃ f, Meth Γ.K (Γ.cls c) "__eq__" f ∧ Cal Γ j f g
  ne : PySem.W.findIn Γ.K (.ref (Γ.cls c)) "__ne__" = some (some (.builtin "object.__ne__"))
  nf : ∀ d, ok d = true → PySem.W.notFirst Γ.K (Γ.cls c) (tyv Γ d) = true
def eqOwn (c : Nat) (g : List D → Res D) (ok : D → Bool) (neg : Bool) (x y : D) : Res D := match x with
  | .obj c' _ => if c' = c ∧ ok y = true then (g [x, y]).bind fun r => match r with
      | .bl b => .ok (.bl (if neg then !b else b))
      | _ => .stuck
    else .stuck
  | _ => .stuck
theorem eqOwn_obj {c : Nat} {g : List D → Res D} {ok : D → Bool} {neg : Bool} {x y : D} {σ : St} {H : Hp} {Q : D → Prop} (h : Post Γ W σ H (eqOwn c g ok neg x y) Q) : ∃ fs, x = .obj c fs ∧ ok y = true ∧
    Post Γ W σ H (g [x, y]) fun r => ∃ b, r = .bl b ∧ Q (.bl (if neg then !b else b)) := by
  unfold eqOwn at h
  cases x with
  | obj c' fs =>
    dsimp only at h
    split at h
    · rename_i e
      refine ⟨fs, by rw [e.1], e.2, (Post.bind h).imp (Same.refl H) fun r z => ?_⟩
      cases r with
      | bl b => exact ⟨b, rfl, z⟩
      | _ => exact (show False from z).elim
    · exact h.elim
  | _ => exact h.elim
theorem eqOwn_run {op : CmpOp} {neg : Bool} {a b : Expr} {pos : Pos} {c : Nat} {x : Str} {f h : Env → Res D} {g : List D → Res D} {ok : D → Bool} (K : ClsOk Γ c x) (O : EqOk Γ j c g ok) (ho : (op = .Eq ∧ neg = false) ∨ (op = .NotEq ∧ neg = true)) (S : Sit Γ k X W) (hk : 0 < k) (hj : j + 1 ≤ k)
    {pins : List (Addr × Obj)} {s : Shared} {σ : St} {H : Hp} {v v2 : V} {u u2 : Value} {Q : VK} {M : Addr → Prop} {d d2 : D} (I : Inv X pins σ H s) (ru : RelV v u) (ru2 : RelV v2 u2) (hM : ∀ a, M a → H a ≠ none) (r : Rp Γ M H d v) (r2 : Rp Γ M H d2 v2)
    (q : Post Γ W σ H (eqOwn c g ok neg d d2) (WantE Γ M H Q)) : wpAny (model X.prog X.w) X.A (compareOp op u u2) (EP X pins σ Q) X.xe s := by
  obtain ⟨fs, rfl, ho2, q⟩ := eqOwn_obj q
  obtain ⟨p, dx, us, rfl, h1, _⟩ := obj_at r
  cases ru
  obtain ⟨fn, mt, cal⟩ := O.ex
  obtain ⟨m2, F2⟩ := I.fr
  obtain ⟨_, _, J⟩ := ins_at I h1
  have rm := S.room' hk hj
  have ty := tyLooks (Md := model X.prog X.w) S.K I ru2 r2
  have nf : PySem.W.notFirst X.K (Γ.cls c) (tyv Γ d2) = true := by rw [S.K]; exact O.nf _ ho2
  rcases ho with ⟨rfl, rfl⟩ | ⟨rfl, rfl⟩
  · show wpAny _ _ (richCompare .Eq _ _) _ _ _
    refine PySem.W.cmp_K (op := .Eq) rm.units0 F2 I.ok.mod.kin J ty nf (by rw [S.K]; exact mt.at_) (by rw [S.K]; exact mt.fn) ?_
    refine thn (cal.run (us := [Value.ref p, u2]) (vs := [V.ref p, v2]) (Q := Q) S hk (by omega) I (.cons rfl (.cons ru2 .nil)) hM (.cons r (.cons r2 .nil)) (q.imp (Same.refl H) fun z w => ?_)) fun _ _ z => cmpBack z
    obtain ⟨b, rfl, w⟩ := w
    exact w
  · show wpAny _ _ (richCompare .NotEq _ _) _ _ _
    have un : X.A.units + 1 < cLine := by
      have := rm.units
      omega
    refine wpAny_mono (own_ne (Q := fun t s' => EP X pins σ Q (.bool t) s') un F2 I.ok.mod.kin J ty nf (by rw [S.K]; exact O.ne) (by rw [S.K]; exact mt.at_) (by rw [S.K]; exact mt.fn) (by rw [S.K]; exact K.mo) ?_) (fun z s' w => ?_) fun _ _ z => z
    · refine thn (cal.runA (A := X.A.in1) (us := [Value.ref p, u2]) (vs := [V.ref p, v2]) (Q := fun v H' => ∃ t, v = .bl t ∧ Q (.bl (!t)) H') S rfl rm.in1 I (.cons rfl (.cons ru2 .nil)) hM (.cons r (.cons r2 .nil)) (q.imp (Same.refl H) fun z w => ?_)) fun z s' w => ?_
      · obtain ⟨b, rfl, w⟩ := w
        intro v' H' e rr
        rw [Rp] at rr
        exact ⟨b, rr, w _ H' e (by rw [Rp] <;> rfl)⟩
      · obtain ⟨v', H', I', rv, t, rfl, w⟩ := w
        cases rv
        exact ⟨t, rfl, .bl (!t), H', I', rfl, w⟩
    · obtain ⟨t, rfl, w⟩ := w
      exact w
def ROwn (Γ : Gam) (W : WX) (c : Nat) (g : List D → Res D) (ok : D → Bool) (neg : Bool) (σ : St) (Q : VK) : V → V → Hp → Prop := fun x y H2 => ∃ (M : Addr → Prop) (d d2 : D), (∀ a, M a → H2 a ≠ none) ∧ Rp Γ M H2 d x ∧ Rp Γ M H2 d2 y ∧ Post Γ W σ H2 (eqOwn c g ok neg d d2) (WantE Γ M H2 Q)
theorem pc_own {op : CmpOp} {neg : Bool} {a b : Expr} {c : Nat} {x : Str} {g : List D → Res D} {ok : D → Bool} {ta tb : TE} (K : ClsOk Γ c x) (O : EqOk Γ j c g ok) (ho : (op = .Eq ∧ neg = false) ∨ (op = .NotEq ∧ neg = true)) (pa : PE X a ta) (pb : PE X b tb) (S : Sit Γ k X W)
    (hk : 0 < k) (hj : j + 1 ≤ k) : PC X op a b (fun σ H Q => ta σ H fun x H1 => tb σ H1 fun y H2 => ROwn Γ W c g ok neg σ Q x y H2) :=
  ⟨fun pins s σ H Q I z => binT pa pb I (R := fun x y H2 => ROwn Γ W c g ok neg σ Q x y H2) z fun v u s2 x y H2 I2 rx ry w => by
    obtain ⟨M, d, d2, hM, r, r2, w⟩ := w
    exact eqOwn_run (a := a) (b := b) (pos := default) (f := (fun _ => .stuck)) (h := (fun _ => .stuck)) K O ho S hk hj I2 rx ry hM r r2 w⟩
theorem own_read {neg : Bool} {c : Nat} {g : List D → Res D} {ok : D → Bool} {f h : Env → Res D} {ta tb : TE} (ra : ∀ M0 H0 σ H ρ Q, Gd Γ M0 H0 σ H ρ → Post Γ W σ H (f ρ) (WantE Γ (Mx M0 σ ρ) H Q) → ta σ H Q)
    (rb : ∀ M0 H0 σ H ρ Q, Gd Γ M0 H0 σ H ρ → Post Γ W σ H (h ρ) (WantE Γ (Mx M0 σ ρ) H Q) → tb σ H Q) {M0 : Bd} {H0 : Hp} {σ : St} {H : Hp} {ρ : Env} {Q : VK} (G : Gd Γ M0 H0 σ H ρ) (q : Post Γ W σ H (E.op2 (eqOwn c g ok neg) f h ρ) (WantE Γ (Mx M0 σ ρ) H Q)) :
    ta σ H fun x H1 => tb σ H1 fun y H2 => ROwn Γ W c g ok neg σ Q x y H2 := by
  refine ra M0 H0 σ H ρ _ G ((Post.bind q).imp (Same.refl H) fun d q1 v H1 e1 r1 => ?_)
  have G1 := G.mono e1
  refine rb M0 H0 σ H1 ρ _ G1 ((Post.bind q1).imp e1 fun d2 q2 v2 H2 e2 r2 => ?_)
  exact ⟨Mx M0 σ ρ, d, d2, fun a z => Mx.alive (G1.mono e2) z, r1.mono e2, r2, q2.imp (e1.trans e2) fun a z => z.back (e1.trans e2)⟩
theorem de_ownEq {op : CmpOp} {neg : Bool} {a b : Expr} {pos : Pos} {c : Nat} {x : Str} {f h : Env → Res D} {g : List D → Res D} {ok : D → Bool} (K : ClsOk Γ c x) (O : EqOk Γ j c g ok) (ho : (op = .Eq ∧ neg = false) ∨ (op = .NotEq ∧ neg = true)) (ha : DE Γ k X W a f) (hb : DE Γ k X W b h) (hm : behindInMarks op b = false)
    (hk : 0 < k := by first | decide | omega) (hj : j + 1 ≤ k := by first | decide | omega) : DE Γ k X W (.Compare a [op] [b] pos) (E.op2 (eqOwn c g ok neg) f h) := fun S => by
  obtain ⟨ta, pa, ra⟩ := ha S
  obtain ⟨tb, pb, rb⟩ := hb S
  exact ⟨_, pe_cmp (pc_own K O ho pa pb S hk hj) hm, fun M0 H0 σ H ρ Q G q => own_read ra rb G q⟩
theorem dt_ownEq {op : CmpOp} {neg : Bool} {a b : Expr} {pos : Pos} {c : Nat} {x : Str} {f h : Env → Res D} {g : List D → Res D} {ok : D → Bool} (K : ClsOk Γ c x) (O : EqOk Γ j c g ok) (ho : (op = .Eq ∧ neg = false) ∨ (op = .NotEq ∧ neg = true)) (ha : DE Γ k X W a f) (hb : DE Γ k X W b h) (hm : behindInMarks op b = false)
    (hk : 0 < k := by first | decide | omega) (hj : j + 1 ≤ k := by first | decide | omega) : DT Γ k X W (.Compare a [op] [b] pos) (T.tst (E.op2 (eqOwn c g ok neg) f h)) := fun S => by
  obtain ⟨ta, pa, ra⟩ := ha S
  obtain ⟨tb, pb, rb⟩ := hb S
  refine ⟨_, pt_cmp (pc_own K O ho pa pb S hk hj) hm, fun M0 H0 σ H ρ Q G q => ?_⟩
  refine own_read ra rb G ((Post.bind q).imp (Same.refl H) fun d q1 v H1 e1 r1 => ?_)
  cases d with
  | bl t =>
    rw [Rp] at r1
    exact ⟨t, r1, q1 H1 e1⟩
  | _ => exact (show False from q1).elim
theorem dt_isN {a : Expr} {f : Env → Res D} {i : Nat} {p pos : Pos} (ha : DE Γ k X W a f) : DT Γ k X W (.Compare a [.Is] [.Constant .none i p] pos) (T.tst (E.op1 isN f)) := fun S => by
  obtain ⟨ta, pa, ra⟩ := ha S
  refine ⟨_, pt_cmp (pc_isN pa) rfl, fun M0 H0 σ H ρ Q G h => ?_⟩
  refine ra M0 H0 σ H ρ _ G ((Post.bind (Post.bind h)).imp (Same.refl H) fun d q v H1 e1 r1 => ?_)
  refine ⟨_, rfl, ?_⟩
  rw [non_iff r1]
  cases d <;> exact (show WantB H Q _ from q) H1 e1
theorem dt_notN {a : Expr} {f : Env → Res D} {i : Nat} {p pos : Pos} (ha : DE Γ k X W a f) : DT Γ k X W (.Compare a [.IsNot] [.Constant .none i p] pos) (T.tst (E.op1 notN f)) := fun S => by
  obtain ⟨ta, pa, ra⟩ := ha S
  refine ⟨_, pt_cmp (pc_notN pa) rfl, fun M0 H0 σ H ρ Q G h => ?_⟩
  refine ra M0 H0 σ H ρ _ G ((Post.bind (Post.bind h)).imp (Same.refl H) fun d q v H1 e1 r1 => ?_)
  refine ⟨_, rfl, ?_⟩
  rw [non_iff r1]
  cases d <;> exact (show WantB H Q _ from q) H1 e1
theorem dt_chain {op op' : CmpOp} {a b c : Expr} {f h m : Env → Res D} {g g' : D → D → Res D} {pos : Pos} (o : OpD Γ k X W (compareOp op) g) (n : ∀ x y z, g x y ≠ .exc z) (o' : OpD Γ k X W (compareOp op') g') (n' : ∀ x y z, g' x y ≠ .exc z) (ha : DE Γ k X W a f) (hb : DE Γ k X W b h) (hc : DE Γ k X W c m)
    (hm : lastMarks [op, op'] [b, c] = false := by with_unfolding_all rfl) : DT Γ k X W (.Compare a [op, op'] [b, c] pos) (T.tst (E.chain g g' f h m)) := fun S => by
  obtain ⟨ta, pa, ra⟩ := ha S
  obtain ⟨tb, pb, rb⟩ := hb S
  obtain ⟨tc, pc, rc⟩ := hc S
  obtain ⟨r, or, rr⟩ := o S
  obtain ⟨r', or', rr'⟩ := o' S
  refine ⟨_, pt_chain or or' pa pb pc hm, fun M0 H0 σ H ρ Q G q0 => ?_⟩
  have q := Post.bind q0
  refine ra M0 H0 σ H ρ _ G ((Post.bind q).imp (Same.refl H) fun x w v H1 e1 r1 => ?_)
  have G1 := G.mono e1
  refine rb M0 H0 σ H1 ρ _ G1 ((Post.bind w).imp e1 fun y w2 u H2 e2 r2 => ?_)
  have G2 := G1.mono e2
  refine rr (Mx M0 σ ρ) H2 v u x y _ (fun a z => Mx.alive G2 z) (r1.mono e2) r2 (no_exc ((Post.bind w2).imp (e1.trans e2) fun z w3 v3 H3 e3 r3 => ?_) (n x y))
  cases z with
  | bl t =>
    rw [Rp] at r3
    refine ⟨t, r3, ?_⟩
    have e := (e1.trans e2).trans e3
    cases t with
    | true =>
      rw [if_pos rfl]
      refine rc M0 H0 σ H3 ρ _ (G2.mono e3) ((Post.bind (show Post Γ W σ H ((m ρ).bind fun w => g' y w) _ from w3)).imp e fun z4 w4 v4 H4 e4 r4 => ?_)
      refine rr' (Mx M0 σ ρ) H4 u v4 y z4 _ (fun a z => Mx.alive ((G2.mono e3).mono e4) z) ((r2.mono e3).mono e4) r4 (no_exc (w4.imp (e.trans e4) fun d z v5 H5 e5 r5 => ?_) (n' y z4))
      cases d with
      | bl t2 =>
        rw [Rp] at r5
        exact ⟨t2, r5, (show WantB H Q t2 from z) H5 ((e.trans e4).trans e5)⟩
      | _ => exact (show False from z).elim
    | false =>
      rw [if_neg Bool.false_ne_true]
      exact ⟨false, rfl, (show WantB H Q false from w3) H3 e⟩
  | _ => exact (show False from w3).elim
/-! ### a, b = e, e' (two names) -/
def S.par (i m : Nat) (f : Env → Res (List D)) : Env → Out := fun ρ => S.lift (f ρ) ρ fun ds => match ds with
  | [x, y] => if i < ρ.length ∧ m < ρ.length then .next (List.set (List.set ρ i (.val x)) m (.val y)) else .stuck
  | _ => .stuck
theorem ds_par (i m : Nat) {x y : Str} {a b : Expr} {f : Env → Res (List D)} {px py pt pt2 pos : Pos} {kt k2 : Nat} (nd : X.N.Nodup) (ha : DA Γ k X W [a, b] f) (hk : 0 < k := by first | decide | omega) (hi : X.N[i]? = some x := by rfl) (hj : X.N[m]? = some y := by rfl) (hij : i ≠ m := by decide)
    (hx : X.env.scope.names.lookup x = some .local := by rfl) (hy : X.env.scope.names.lookup y = some .local := by rfl) (hw : swappedStores [.Tuple [.Name x px, .Name y py] kt pt] (.Tuple [a, b] k2 pt2) X.env = pure (some [x, y]) := by rfl)
    (hs : swapsWithSole [.Tuple [.Name x px, .Name y py] kt pt] (.Tuple [a, b] k2 pt2) pos.line X.env = pure false := by rfl) : DS Γ k X W (.Assign [.Tuple [.Name x px, .Name y py] kt pt] (.Tuple [a, b] k2 pt2) pos) (S.par i m f) := fun St => by
  obtain ⟨ta, pa, ra⟩ := ha St
  refine ⟨_, ps_par (St.calm hk) nd hi hj hij hx hy pa hw hs, fun M0 H0 σ H ρ Dn G h => ?_⟩
  refine ra M0 H0 σ H ρ _ G ((lift_post G h).imp (Same.refl H) fun ds w vs H1 e1 r => ?_)
  match ds, w, r with
  | [u, v], w, r =>
    dsimp only at w
    split at w
    · rename_i hl
      rw [RpL] at r
      obtain ⟨v1, t, rfl, r1, r⟩ := r
      rw [RpL] at r
      obtain ⟨v2, t2, rfl, r2, r⟩ := r
      rw [RpL] at r
      subst r
      have G1 := G.set_val hl.1 e1 r1
      refine ⟨v1, v2, rfl, w _ _ (G1.set_val (by rw [List.length_set]; exact hl.2) (Same.refl _) (Rp.imp (.weak fun a z => ?_) _ _ r2))⟩
      rcases z with z | ⟨n, z⟩
      · exact .inl z
      · exact .inr ⟨n, (own_set_val z).1⟩
    · exact (show False from w).elim
  | [], w, r => exact (show False from w).elim
  | [_], w, r => exact (show False from w).elim
  | _ :: _ :: _ :: _, w, r => exact (show False from w).elim
/-! ### a def of the text as something that may be called -/
theorem runD_len {N n : Nat} {b : Env → Out} (ds : List D) (h : ds.length ≠ n) : runD N n b ds = .stuck := by
  unfold runD
  rw [if_neg h]
theorem runF_len {N n : Nat} {b : Env → Out} (ds : List D) (h : ds.length ≠ n) : runF N n b ds = .stuck := by
  unfold runF
  rw [if_neg h]
theorem runI_len {c N n : Nat} {b : Env → Out} (ds : List D) (h : ds.length ≠ n) : runI c N n b ds = .stuck := by
  unfold runI
  rw [if_neg h]
section
variable {n : Nat} {N ps : List Str} {x qual : Str} {params : Arguments} {body : List Stmt} {scope : Scope} {dvs : List V} {kws : List (Str × V)} {f : Addr} {b : Env → Out}
abbrev BindN (x qual : Str) (params : Arguments) (body : List Stmt) (scope : Scope) (ps : List Str) : Prop := ∀ (kV doc pm : Value) (an : Option Addr) (cdv ct : Value) (us : List Value), us.length = ps.length → bindArgs (PySem.W.fnOf x qual params body scope .none kV doc pm an cdv ct) ⟨us, []⟩ = pure (ps.zip us)
theorem cal_mk (F : ∃ fd, FunD Γ.K x qual params body scope [] kws f fd) (Sc : FnScope N ps scope) (T : Top Γ) (hb : Body Γ k N qual scope f body b) (hB : BindN x qual params body scope ps) (hp : ps.length = n := by rfl) (hn : n ≤ N.length := by decide) : Cal Γ (k + 1) f (runD N.length n b) := by
  obtain ⟨fd, F⟩ := F
  exact ⟨fd, ps, [], [], [], n, _, .nil, F.bindsN hB, fx_d F Sc T hp hn hb, fun _ _ => .nil, runD_len, fun as => by rw [List.append_nil]⟩
theorem calF_mk (F : ∃ fd, FunD Γ.K x qual params body scope [] kws f fd) (Sc : FnScope N ps scope) (T : Top Γ) (hb : Body Γ k N qual scope f body b) (hB : BindN x qual params body scope ps) (hp : ps.length = n := by rfl) (hn : n ≤ N.length := by decide) : CalF Γ (k + 1) f (runF N.length n b) := by
  obtain ⟨fd, F⟩ := F
  exact ⟨fd, ps, [], [], [], n, _, .nil, F.bindsN hB, fx_f F Sc T hp hn hb, fun _ _ => .nil, runF_len, fun as => by rw [List.append_nil]⟩
theorem calI_mk {c : Nat} {y : Str} (F : ∃ fd, FunD Γ.K x qual params body scope [] kws f fd) (M : Mk Γ.K (Γ.cls c) f) (Sc : FnScope (y :: N) ps scope) (T : Top Γ) (hb : Body Γ k (y :: N) qual scope f body b) (hB : BindN x qual params body scope ps) (hp : ps.length = n + 1 := by rfl) (hn : n ≤ N.length := by decide) :
    CalI Γ (k + 1) c (runI c (N.length + 1) n b) := by
  obtain ⟨fd, F⟩ := F
  exact ⟨f, fd, ps, [], [], [], n, _, M, .nil, F.bindsN hB, fx_i F Sc T hp hn hb, fun _ _ => .nil, runI_len, fun as => by rw [List.append_nil]⟩
/-- with defaults: m positional values given, the defaults behind the first j of them are taken -/
abbrev BindJ (x qual : Str) (params : Arguments) (body : List Stmt) (scope : Scope) (ps : List Str) (m j : Nat) (dl : Nat) : Prop := ∀ (T : Addr) (kV doc pm : Value) (an : Option Addr) (cdv ct : Value) (us its : List Value), us.length = m → its.length = dl →
  ∃ k, bindArgs (PySem.W.fnOf x qual params body scope (.ref T) kV doc pm an cdv ct) ⟨us, []⟩ = seqItems? (.ref T) >>= k ∧ k (some its.toArray) = pure (ps.zip (us ++ its.drop j))
theorem cal_mkJ {m jd : Nat} {dd : List D} (F : ∃ fd, FunD Γ.K x qual params body scope dvs kws f fd) (Sc : FnScope N ps scope) (T : Top Γ) (hb : Body Γ k N qual scope f body b) (hB : BindJ x qual params body scope ps m jd dvs.length) (hd : dvs ≠ []) (hm : m + (dvs.length - jd) = ps.length)
    (hdd : ∀ M H, RpL Γ M H dd (dvs.drop jd)) (hp : ps.length = n := by rfl) (hn : n ≤ N.length := by decide) : Cal Γ (k + 1) f (fun as => runD N.length n b (as ++ dd)) := by
  obtain ⟨fd, F⟩ := F
  obtain ⟨ds, h1, h2⟩ := F.binds1 m jd hd hm hB
  exact ⟨fd, ps, dvs.drop jd, ds, dd, n, _, h1, h2, fx_d F Sc T hp hn hb, hdd, runD_len, fun as => rfl⟩
theorem calI_mkJ {c m jd : Nat} {y : Str} {dd : List D} (F : ∃ fd, FunD Γ.K x qual params body scope dvs kws f fd) (M : Mk Γ.K (Γ.cls c) f) (Sc : FnScope (y :: N) ps scope) (T : Top Γ) (hb : Body Γ k (y :: N) qual scope f body b) (hB : BindJ x qual params body scope ps m jd dvs.length) (hd : dvs ≠ []) (hm : m + (dvs.length - jd) = ps.length)
    (hdd : ∀ M H, RpL Γ M H dd (dvs.drop jd)) (hp : ps.length = n + 1 := by rfl) (hn : n ≤ N.length := by decide) : CalI Γ (k + 1) c (fun as => runI c (N.length + 1) n b (as ++ dd)) := by
  obtain ⟨fd, F⟩ := F
  obtain ⟨ds, h1, h2⟩ := F.binds1 m jd hd hm hB
  exact ⟨f, fd, ps, dvs.drop jd, ds, dd, n, _, M, h1, h2, fx_i F Sc T hp hn hb, hdd, runI_len, fun as => rfl⟩
end
end
set_option Elab.async false
set_option linter.all false
set_option maxRecDepth 100000
set_option maxHeartbeats 4000000
open PySem L2
section
variable {Γ : Gam} {k j : Nat} {X : Cx} {W : WX}
/-! ### a list or a tuple is walked -/
def Z.seq (f : Env → Res D) : Env → Res (List D) := fun ρ => (f ρ).bind fun d => match d with
  | .lst ds => .ok ds
  | .tup ds => .ok ds
  | _ => .stuck
theorem pi_seq {tg e : Expr} {te : TE} (he : PE X e te) : PI X tg e fun σ H R => te σ H fun x H1 => ∃ a, x = V.ref a ∧ ((∃ J, iList X.K (fun _ H Q => Q (.ref a) H) σ H1 fun J' H2 => J' = J ∧ H2 = H1 ∧ R J H1) ∨ ∃ J, iTup X.K (fun _ H Q => Q (.ref a) H) σ H1 fun J' H2 => J' = J ∧ H2 = H1 ∧ R J H1) := by
  refine ⟨fun pins s σ H R I h => ?_⟩
  refine thn (he.run pins s σ H _ I h) fun v s1 ⟨x, H1, I1, r1, a, e, w⟩ => ?_
  subst e
  cases r1
  have back : ∀ {J : It} {H2 : Hp}, (∃ J0, J = J0 ∧ H2 = H1 ∧ R J0 H1) → R J H2 := fun {J H2} ⟨J0, e1, e2, z⟩ => by rw [e1, e2]; exact z
  rcases w with ⟨J, w⟩ | ⟨J, w⟩
  · obtain ⟨a', e, ⟨xs, hq⟩, e1, e2, q⟩ := w
    cases e
    obtain ⟨its, rv, p, hz⟩ := I1.list hq
    refine wpAny_pyIter_list p.isList ⟨s1.heap.objs.size, [s1.heap.objs.size], _, _, H1, rfl, I1.kept (t' := s1.toks) fun b o e => Heap.get?_push_of_some _ e, turn_list a _, ⟨_, Heap.get?_push_size _ rfl, rfl, rfl⟩, fun b hb => ?_, by rw [e1]; exact q⟩
    rw [List.mem_singleton.mp hb]
    exact I1.fpOk (Nat.le_refl _) (I1.hok.fresh (Nat.le_refl _))
  · obtain ⟨a', e, ⟨xs, hq⟩, e1, e2, q⟩ := w
    cases e
    obtain ⟨its, rv, p, hz⟩ := I1.tuple hq
    refine wpAny_pyIter_tuple (show s1.heap.IsTuple a its.toArray from p) ⟨s1.heap.objs.size, [s1.heap.objs.size], _, _, H1, rfl, I1.kept (t' := s1.toks) fun b o e => Heap.get?_push_of_some _ e, turn_tuple a _, ⟨_, Heap.get?_push_size _ rfl, rfl, rfl⟩, fun b hb => ?_, by rw [e1]; exact q⟩
    rw [List.mem_singleton.mp hb]
    exact I1.fpOk (Nat.le_refl _) (I1.hok.fresh (Nat.le_refl _))
theorem di_seq {tg e : Expr} {f : Env → Res D} (he : DE Γ k X W e f) : DI Γ k X W tg e (Z.seq f) := fun S => by
  obtain ⟨te, pe, re⟩ := he S
  refine ⟨_, pi_seq pe, fun M0 H0 σ H ρ R G h => re M0 H0 σ H ρ _ G ((Post.bind h).imp (Same.refl H) fun d w v H1 e1 r => ?_)⟩
  cases d with
  | lst ds =>
    rw [Rp] at r
    obtain ⟨a, vs, rfl, t, r⟩ := r
    refine ⟨a, rfl, .inl ⟨_, a, rfl, ⟨vs, by rw [S.K]; exact t.sq⟩, rfl, rfl, ?_⟩⟩
    exact WantQ.walk (show WantI Γ _ H R ds from w) e1 r walk_list fun M' H' im => by rw [S.K]; exact (t.imp im).sq
  | tup ds =>
    rw [Rp] at r
    obtain ⟨a, vs, rfl, t, r⟩ := r
    refine ⟨a, rfl, .inr ⟨_, a, rfl, ⟨vs, by rw [S.K]; exact t.sq⟩, rfl, rfl, ?_⟩⟩
    exact WantQ.walk (show WantI Γ _ H R ds from w) e1 r walk_tup fun M' H' im => by rw [S.K]; exact (t.imp im).sq
  | _ => exact (show False from w).elim
/-- a body that is never run -/
theorem body_stuck {N : List Str} {qual : Str} {scope : Scope} {f : Addr} {body : List Stmt} : Body Γ k N qual scope f body fun _ => .stuck := fun cdv A outer s H E _ =>
  ⟨fun _ _ _ => False, ⟨fun _ _ _ _ _ _ h => h.elim⟩, fun _ _ _ _ _ _ _ h => h⟩
end
/-- the turns of a while: the size of the int in the i-th slot, and one -/
def fuelI (i : Nat) : Env → Nat := fun ρ => match ρ[i]? with
  | some (.val (.int z)) => z.natAbs + 1
  | _ => 0
/-! ### what the head tells of the heap behind the top -/
open PySem.W in
/-- the getter of a property -/
def getterAt (K : Frag) (C : Addr) (m : Str) : Addr := match recIn K (He.ma K C m) "property" with
  | some (.ref g :: _) => g
  | _ => 0
structure Told where
  adr : PySem.W.Frag → Addr
  nm : Str
  ql : Str
  ar : Arguments
  bd : List Stmt
  sc : Scope
  df : List He.Dv := []
def Told.obs (K : PySem.W.Frag) (d : Told) : He.FnW := match K.lookup (d.adr K) with
  | some ⟨_, _, .func g, _⟩ => some (g.name, g.qualname, g.params, g.body, g.scope, g.globals, g.closure, g.builtins)
  | _ => none
def Told.due (d : Told) : He.FnW := some (d.nm, d.ql, d.ar, .stmts d.bd, d.sc, mainGlobals, [], builtinsNs)
def Told.vals (K : PySem.W.Frag) (d : Told) : List V := d.df.map (He.Dv.v K)
def Told.fine (K : PySem.W.Frag) (d : Told) : Bool := match K.lookup (d.adr K) with
  | some ⟨_, _, .func g, _⟩ => PySem.W.keepIn K (.ref (d.adr K)) && PySem.W.codeIn K g.code d.ql && He.dflB K g.defaults (d.vals K) && He.kwdB K g.kwdefaults []
  | _ => false
theorem Told.fun_ {K : PySem.W.Frag} {d : Told} (e : d.obs K = d.due) (c : d.fine K = true) : ∃ g, FunD K d.nm d.ql d.ar d.bd d.sc (d.vals K) [] (d.adr K) g := by
  unfold Told.obs at e
  unfold Told.fine at c
  cases q : K.lookup (d.adr K) with
  | none => rw [q] at e; cases e
  | some o =>
    obtain ⟨o1, o2, o3, o4⟩ := o
    rw [q] at e c
    cases o3 with
    | func g =>
      obtain ⟨g1, g2, g3, g4, g5, g6, g7, g8, g9, g10, g11, g12, g13, g14, g15⟩ := g
      simp only [Told.due, Option.some.injEq, Prod.mk.injEq] at e
      simp only [Bool.and_eq_true] at c
      obtain ⟨rfl, rfl, rfl, rfl, rfl, rfl, rfl, rfl⟩ := e
      obtain ⟨⟨⟨c1, c2⟩, c3⟩, c4⟩ := c
      exact ⟨_, ⟨o1, o2, g8, g9, g10, g11, g12, g13, g14, o4, rfl, q, c2, He.dflB_ok c3, He.kwdB_ok c4⟩, c1⟩
    | _ => cases e
abbrev Sight : Type := Bool × List He.FnW
/-- the places that a division by a great int looks at -/
def rootsIn (K : PySem.W.Frag) : Bool := (K.lookup cStatics).isSome && ((K.lookup sysModules).isSome && ((K.lookup builtinsNs).isSome && ((K.lookup mainGlobals).isSome && match PySem.W.nsIn K mainGlobals "__builtins__" with
  | some (some (.ref b)) => (K.lookup b).isSome
  | _ => false)))
def sight (cs : List (PySem.W.Frag → Bool)) (fn : List Told) (K : PySem.W.Frag) : Sight := (rootsIn K && ((cs.all fun c => c K) && fn.all fun d => d.fine K), fn.map fun d => d.obs K)
def due (fn : List Told) : Sight := (true, fn.map Told.due)
def Seen (cs : List (PySem.W.Frag → Bool)) (fn : List Told) (K : PySem.W.Frag) : Prop := sight cs fn K = due fn
def sightG (n : Nat) (cs : List (PySem.W.Frag → Bool)) (fn : List Told) (g : Addr → Option Obj) : Sight := sight cs fn (He.frG g (He.asD g n ++ [cStatics, sysModules, builtinsNs]))
def hookS (n : Nat) (cs : List (PySem.W.Frag → Bool)) (fn : List Told) : PySem.W.Hook where
  α := Sight
  obs s := sightG n cs fn s.heap.get?
  val _ := due fn
  says _ h := ∃ K : PySem.W.Frag, K.In h ∧ Seen cs fn K
  of _ _ e := ⟨_, He.frG_in, e⟩
  keeps _ _ _ := fun ⟨K, i, c⟩ k => ⟨K, PySem.W.Frag.In.keeps i k, c⟩
theorem sightG_eq {n : Nat} {cs : List (PySem.W.Frag → Bool)} {fn : List Told} {g : Addr → Option Obj} {s : Shared} (h : ∀ a, g a = s.heap.get? a) : sightG n cs fn g = (hookS n cs fn).obs s := by
  rw [show g = s.heap.get? from funext h] <;> rfl
section
variable {cs : List (PySem.W.Frag → Bool)} {fn : List Told} {K : PySem.W.Frag}
theorem Seen.all (c : Seen cs fn K) : (cs.all fun c => c K) = true ∧ (fn.all fun d => d.fine K) = true ∧ (fn.map fun d => d.obs K) = fn.map Told.due := by
  have h1 := congrArg (fun z : Sight => z.1) c
  have h2 := congrArg (fun z : Sight => z.2) c
  obtain ⟨h3, h4⟩ := Bool.and_eq_true_iff.mp (Bool.and_eq_true_iff.mp h1).2
  exact ⟨h3, h4, h2⟩
theorem Seen.roots (c : Seen cs fn K) : rootsIn K = true := (Bool.and_eq_true_iff.mp (congrArg (fun z : Sight => z.1) c)).1
theorem Seen.of (c : Seen cs fn K) (i : Nat) {f : PySem.W.Frag → Bool} (h : cs[i]? = some f) : f K = true := List.all_eq_true.mp c.all.1 f (List.mem_of_getElem? h)
theorem Seen.fun_ (c : Seen cs fn K) (i : Nat) {d : Told} (h : fn[i]? = some d) : ∃ g, FunD K d.nm d.ql d.ar d.bd d.sc (d.vals K) [] (d.adr K) g := by
  obtain ⟨_, h2, h3⟩ := c.all
  have e : (fn.map fun d => d.obs K)[i]? = (fn.map Told.due)[i]? := by rw [h3]
  rw [List.getElem?_map, List.getElem?_map, h] at e
  exact Told.fun_ (Option.some.inj e) (List.all_eq_true.mp h2 d (List.mem_of_getElem? h))
end
/-! ### single facts -/
def decO {α : Type} [DecidableEq α] (a b : Option α) : Bool := decide (a = b)
def gloC (x : Str) (K : PySem.W.Frag) : Bool := (He.Fa.glo x).ok K && PySem.W.keepIn K (.ref (He.ga K x))
def clsC (x : Str) (K : PySem.W.Frag) : Bool := (He.Fa.glo x).ok K && ((He.Fa.cls x).ok K && (PySem.W.selfFirst K (He.ga K x) && (He.eqO (PySem.W.findIn K (.ref (He.ga K x)) "__class__") (some (some (.builtin "object.__class__"))) &&
  (He.eqO (PySem.W.specialIn K (.builtin "object.__class__") "__get__") (some (some (.builtin "getset_descriptor.__get__"))) && (decide (PySem.W.takesIn K (.builtin "object.__class__") = some true) && decide (PySem.W.mroIn K (He.ga K x) (.type "object") = some true))))))
def proC (x m : Str) (K : PySem.W.Frag) : Bool := He.eqO (PySem.W.findIn K (.ref (He.ga K x)) m) (some (some (.ref (He.ma K (He.ga K x) m)))) && (He.eqO (PySem.W.specialIn K (.ref (He.ma K (He.ga K x) m)) "__get__") (some (some (.builtin "property.__get__"))) &&
  (decide (PySem.W.takesIn K (.ref (He.ma K (He.ga K x) m)) = some true) && match PySem.W.recIn K (He.ma K (He.ga K x) m) "property" with
    | some (.ref g :: _) => decide (g = getterAt K (He.ga K x) m)
    | _ => false))
def excC (x : Str) (K : PySem.W.Frag) : Bool := (He.Fa.glo x).ok K && (He.Fa.exc x).ok K
def neC (x : Str) (K : PySem.W.Frag) : Bool := He.eqO (PySem.W.findIn K (.ref (He.ga K x)) "__ne__") (some (some (.builtin "object.__ne__")))
def builtC (f : Value → Bool) : Bool := f (.type "NoneType") && (f (.type "bool") && (f (.type "int") && (f (.type "str") && (f (.type "tuple") && f (.type "list")))))
def firstC (x : Str) (nm : Nat → Str) (l : List Nat) (K : PySem.W.Frag) : Bool := builtC (fun t => PySem.W.notFirst K (He.ga K x) t) && l.all fun c => PySem.W.notFirst K (He.ga K x) (.ref (He.ga K (nm c)))
structure Tst where
  non : Bool
  bl : Bool
  int : Bool
  str : Bool
  tup : Bool
  lst : Bool
  objs : List (Nat × Bool)
def Tst.f (t : Tst) : D → Option Bool
  | .non => some t.non
  | .bl _ => some t.bl
  | .int _ => some t.int
  | .str _ => some t.str
  | .tup _ => some t.tup
  | .lst _ => some t.lst
  | .obj c _ => t.objs.lookup c
def isC (u : PySem.W.Frag → Value) (nm : Nat → Str) (t : Tst) (K : PySem.W.Frag) : Bool := decide (PySem.W.kitOne K (.type "NoneType") (u K) = some t.non) && (decide (PySem.W.kitOne K (.type "bool") (u K) = some t.bl) && (decide (PySem.W.kitOne K (.type "int") (u K) = some t.int) &&
  (decide (PySem.W.kitOne K (.type "str") (u K) = some t.str) && (decide (PySem.W.kitOne K (.type "tuple") (u K) = some t.tup) && (decide (PySem.W.kitOne K (.type "list") (u K) = some t.lst) && t.objs.all fun q => decide (PySem.W.kitOne K (.ref (He.ga K (nm q.1))) (u K) = some q.2))))))
def catC (u : PySem.W.Frag → Value) (nm : Nat → Str) (l : List (Nat × Bool)) (K : PySem.W.Frag) : Bool := l.all fun q => decide (PySem.W.exmOne K (.ref (He.ga K (nm q.1))) (u K) = some q.2)
def okTy (l : List Nat) : D → Bool
  | .obj c _ => l.contains c
  | _ => true
theorem lookup_mem {α β : Type} [BEq α] [LawfulBEq α] {a : α} {b : β} : ∀ {l : List (α × β)}, l.lookup a = some b → (a, b) ∈ l
  | [], h => by cases h
  | (x, y) :: r, h => by
    rw [List.lookup_cons] at h
    split at h
    · rename_i q
      cases h
      rw [beq_iff_eq.mp q]
      exact List.mem_cons_self
    · exact List.mem_cons_of_mem _ (lookup_mem h)
/-- classes are named by tags -/
structure Named (Γ : Gam) (nm : Nat → Str) (h : Heap) : Prop where
  KX : Γ.K.In h
  ns : h.Ns mainGlobals Γ.mg
  cl : ∀ c, Γ.cls c = He.ga Γ.K (nm c)
section
variable {Γ : Gam} {nm : Nat → Str} {h : Heap} {x m : Str} {c : Nat}
theorem Named.glo (N : Named Γ nm h) (t : gloC x Γ.K = true) : Glo Γ x (He.ga Γ.K x) := by
  obtain ⟨t1, t2⟩ := Bool.and_eq_true_iff.mp t
  exact ⟨He.glo_ok N.KX N.ns t1, t2⟩
theorem Named.cls_ (N : Named Γ nm h) (e : nm c = x) (t : clsC x Γ.K = true) : ClsOk Γ c x := by
  simp only [clsC, Bool.and_eq_true, decide_eq_true_eq] at t
  obtain ⟨t1, t2, t3, t4, t5, t6, t7⟩ := t
  have q : Γ.cls c = He.ga Γ.K x := by rw [N.cl, e]
  refine ⟨by rw [q]; exact He.glo_ok N.KX N.ns t1, by rw [q]; exact He.cls_ok t2, by rw [q]; exact t3, by rw [q]; exact He.eqO_ok t4, He.eqO_ok t5, t6, by rw [q]; exact t7⟩
theorem Named.meth (N : Named Γ nm h) (e : nm c = x) (t : (He.Fa.meth x m).ok Γ.K = true) : Meth Γ.K (Γ.cls c) m (He.ma Γ.K (He.ga Γ.K x) m) := by
  rw [N.cl, e]
  exact He.meth_ok t
theorem Named.mkr (N : Named Γ nm h) (e : nm c = x) (t : (He.Fa.mkr x).ok Γ.K = true) : Mk Γ.K (Γ.cls c) (He.ma Γ.K (He.ga Γ.K x) "__init__") := by
  rw [N.cl, e]
  exact He.mkr_ok t
theorem Named.noat (N : Named Γ nm h) (e : nm c = x) (t : (He.Fa.noat x m).ok Γ.K = true) : NoAttr Γ.K (Γ.cls c) m := by
  rw [N.cl, e]
  exact He.noat_ok t
theorem Named.pro (N : Named Γ nm h) (e : nm c = x) (t : proC x m Γ.K = true) : PropOf Γ.K (Γ.cls c) m (He.ma Γ.K (He.ga Γ.K x) m) (getterAt Γ.K (He.ga Γ.K x) m) := by
  simp only [proC, Bool.and_eq_true, decide_eq_true_eq] at t
  obtain ⟨t1, t2, t3, t4⟩ := t
  rw [N.cl, e]
  refine ⟨He.eqO_ok t1, He.eqO_ok t2, t3, ?_⟩
  revert t4
  cases q : PySem.W.recIn Γ.K (He.ma Γ.K (He.ga Γ.K x) m) "property" with
  | none => exact fun z => by cases z
  | some l =>
    cases l with
    | nil => exact fun z => by cases z
    | cons v r =>
      cases v <;> first | (exact fun z => by cases z) | skip
      intro t4
      exact ⟨r, by rw [of_decide_eq_true t4]⟩
theorem Named.exc (N : Named Γ nm h) (e : nm c = x) (t : excC x Γ.K = true) : ExcOk Γ c x := by
  obtain ⟨t1, t2⟩ := Bool.and_eq_true_iff.mp t
  obtain ⟨t3, t4, t5, t6⟩ := He.exc_ok t2
  have q : Γ.cls c = He.ga Γ.K x := by rw [N.cl, e]
  exact ⟨by rw [q]; exact He.glo_ok N.KX N.ns t1, by rw [q]; exact t3, by rw [q]; exact t4, by rw [q]; exact t5, by rw [q]; exact t6⟩
theorem Named.mgc (N : Named Γ nm h) (e : nm c = x) (t : (He.Fa.glo x).ok Γ.K = true) : Γ.mg x = some (.ref (Γ.cls c)) := by
  rw [N.cl, e]
  exact He.glo_ok N.KX N.ns t
theorem Named.free (N : Named Γ nm h) (t : (He.Fa.free x).ok Γ.K = true) : Γ.mg x = none := He.free_ok N.KX N.ns t
theorem Named.ne (N : Named Γ nm h) (e : nm c = x) (t : neC x Γ.K = true) : PySem.W.findIn Γ.K (.ref (Γ.cls c)) "__ne__" = some (some (.builtin "object.__ne__")) := by
  rw [N.cl, e]
  exact He.eqO_ok t
theorem Named.first (N : Named Γ nm h) (e : nm c = x) {l : List Nat} (t : firstC x nm l Γ.K = true) : ∀ d, okTy l d = true → PySem.W.notFirst Γ.K (Γ.cls c) (tyv Γ d) = true := by
  simp only [firstC, builtC, Bool.and_eq_true] at t
  obtain ⟨⟨t1, t2, t3, t4, t5, t6⟩, t7⟩ := t
  rw [N.cl, e]
  intro d hd
  cases d with
  | non => exact t1
  | bl b => exact t2
  | int i => exact t3
  | str x => exact t4
  | tup ds => exact t5
  | lst ds => exact t6
  | obj c' fs =>
    show PySem.W.notFirst Γ.K _ (.ref (Γ.cls c')) = true
    rw [N.cl]
    exact List.all_eq_true.mp t7 c' (List.contains_iff_mem.mp hd)
theorem Named.isi (N : Named Γ nm h) {u : PySem.W.Frag → Value} {t : Tst} (q : isC u nm t Γ.K = true) (ho : ∀ p ∈ t.objs, InsOk Γ p.1) : IsiOk Γ (u Γ.K) t.f := by
  simp only [isC, Bool.and_eq_true, decide_eq_true_eq] at q
  obtain ⟨t1, t2, t3, t4, t5, t6, t7⟩ := q
  refine ⟨fun d b e => ?_, fun c fs b e => ho _ (lookup_mem e)⟩
  cases d with
  | non => rw [← e]; exact t1
  | bl b => rw [← e]; exact t2
  | int i => rw [← e]; exact t3
  | str x => rw [← e]; exact t4
  | tup ds => rw [← e]; exact t5
  | lst ds => rw [← e]; exact t6
  | obj c' fs =>
    show PySem.W.kitOne Γ.K (.ref (Γ.cls c')) _ = _
    rw [N.cl]
    exact of_decide_eq_true (List.all_eq_true.mp t7 (c', b) (lookup_mem e))
theorem Named.cat (N : Named Γ nm h) {u : PySem.W.Frag → Value} {l : List (Nat × Bool)} (q : catC u nm l Γ.K = true) : CatchOk Γ (u Γ.K) fun c => l.lookup c :=
  ⟨fun c b e => by rw [N.cl]; exact of_decide_eq_true (List.all_eq_true.mp q (c, b) (lookup_mem e))⟩
end
/-! ### the end of a law -/
theorem look_move {K : PySem.W.Frag} {h h' : Heap} {a : Addr} {o : Obj} (X : K.In h) (X' : K.In h') (c : (K.lookup a).isSome = true) (e : h.get? a = some o) : h'.get? a = some o := by
  obtain ⟨o', q⟩ := Option.isSome_iff_exists.mp c
  have e1 := X a o' q
  rw [e] at e1
  cases e1
  exact X' a o q
theorem ns_move {K : PySem.W.Frag} {h h' : Heap} {a : Addr} {m : Str → Option Value} (X : K.In h) (X' : K.In h') (c : (K.lookup a).isSome = true) (N : h.Ns a m) : h'.Ns a m := by
  obtain ⟨o, es, ep, e, r⟩ := N
  exact ⟨o, es, ep, look_move X X' c e, r⟩
theorem seer_move {K : PySem.W.Frag} {h h' : Heap} {mg : Str → Option Value} (X : K.In h) (X' : K.In h') (c : rootsIn K = true) (N : h.NoSeer) : h'.NoSeer := by
  simp only [rootsIn, Bool.and_eq_true] at c
  obtain ⟨c1, c2, c3, c4, c5⟩ := c
  obtain ⟨n1, n2, n3, n4⟩ := N
  refine ⟨?_, ?_, ?_, ?_⟩
  · obtain ⟨mc, a, b⟩ := n1
    exact ⟨mc, ns_move X X' c1 a, b⟩
  · obtain ⟨mc, a, b⟩ := n2
    exact ⟨mc, ns_move X X' c2 a, b⟩
  · obtain ⟨mc, a, b⟩ := n3
    exact ⟨mc, ns_move X X' c3 a, b⟩
  · obtain ⟨mm, bm, ob, a, b, c, d⟩ := n4
    refine ⟨mm, bm, ob, ns_move X X' c4 a, b, ?_, d⟩
    revert c5
    cases q : PySem.W.nsIn K mainGlobals "__builtins__" with
    | none => exact fun z => by cases z
    | some v =>
      cases v with
      | none => exact fun z => by cases z
      | some v =>
        have e := PySem.W.mg_of X a q
        rw [b] at e
        cases e
        exact fun c5 => look_move X X' c5 c
theorem FnOk.less {P : Program} {w : World} {K : PySem.W.Frag} {mg : Str → Option Value} {base : Heap} {CX : CXT} {k : Nat} {f : Addr} {fd : FuncData} {ps : List Str} {sp sp' : Sp} (F : FnOk P w K mg base CX k f fd ps sp) (i : ∀ vs H Q E, sp' vs H Q E → sp vs H Q E) : FnOk P w K mg base CX k f fd ps sp' := by
  obtain ⟨l, r⟩ := F
  exact ⟨fun vs H Q E z => l vs H Q E (i _ _ _ _ z), fun A st s H fl us vs Q E h1 h2 h3 h4 z => r A st s H fl us vs Q E h1 h2 h3 h4 (i _ _ _ _ z)⟩
/-- what is promised of a law's def -/
def spLaw (K : PySem.W.Frag) (n : Nat) : Sp := fun vs H Q _ => ∃ (a : Addr) (ns : List Int), vs = [.ref a] ∧ ns.length ≤ n ∧ (∀ z ∈ ns, Builtin.Int.intBits z ≤ 1048576) ∧ SqL K H a (ns.map V.int) ∧ ∀ H', Q (.bl true) H'
def scr (ns : List Int) : D := .lst (ns.map D.int)
theorem rp_ints {Γ : Gam} {M : Addr → Prop} {H : Hp} : ∀ ns : List Int, RpL Γ M H (ns.map D.int) (ns.map V.int)
  | [] => .nil
  | i :: r => .cons (by rw [Rp]) (rp_ints r)
theorem spLaw_of {Γ : Gam} {n : Nat} {g : List D → Res D} (pure_ : ∀ ns : List Int, ns.length ≤ n → (∀ z ∈ ns, Builtin.Int.intBits z ≤ 1048576) → g [scr ns] = .ok (.bl true)) (vs : List V) (H : Hp) (Q : VK) (E : XK) (h : spLaw Γ.K n vs H Q E) : spD Γ 1 g vs H Q E := by
  obtain ⟨a, ns, rfl, h1, h2, h3, h4⟩ := h
  refine ⟨fun _ => False, [scr ns], rfl, fun _ z => z.elim, .cons ?_ .nil, ?_⟩
  · unfold scr
    rw [Rp]
    refine ⟨a, ns.map V.int, rfl, ?_, rp_ints ns⟩
    rcases h3 with h3 | h3
    · exact .inl ⟨h3, id⟩
    · exact .inr h3
  · rw [pure_ ns h1 h2]
    intro v H' e r
    rw [Rp] at r
    rw [r]
    exact h4 H'
open PySem.W in
theorem law_end {l : OpenLaw} {n k : Nat} {q : Program} {loose : List Str} {XP : (Str → Option Value) → Heap → Prop} {d : DefRec} {x : Str} {cs : List (Frag → Bool)} {fn : List Told} (most : l.most = some n) (small : n ≤ sizeLine) (nodf : d.params.defaults = []) (room : Room k callerA)
    (free : PyProof.Rows.importsNone q = true)
    (bind : ∀ K, Seen cs fn K → ∃ fd : FuncData, (∀ (s : Shared) (u : Value), BindsTo s fd ⟨[u], []⟩ [(x, u)]) ∧ ∀ (w : World) (h base : Heap) (mg : Str → Option Value), K.In h → h.Ns mainGlobals mg → base.NoSeer → FnOk l.prog w K mg base (L2.CX l.prog w) k (He.ga K d.name) fd [x] (spLaw K n))
    (named : ∀ K (h : Heap) (mg : Str → Option Value), K.In h → h.Ns mainGlobals mg → Seen cs fn K → mg d.name = some (.ref (He.ga K d.name))) {m : Nat} :
    WalkO q loose XP (hookS m cs fn).says l.row.toRowW d [] fun f vs => PySem.call f vs := by
  apply Att.attach_callB most nodf
  intro w s0 s1 mg mb f o pm cd doc a vs ns G Y _ _ _ hmg hobj hints hlen hbits hgen
  obtain ⟨K, X, c⟩ := Y
  obtain ⟨fd, hb, hF⟩ := bind K c
  have e := named K _ mg X G.T.g c
  rw [hmg] at e
  cases e
  exact law_call (sp := spLaw K n) X G.T.g G.T.b G.T.builtins G.T.nolimit hgen hobj hints (Nat.le_trans hlen small) room (fun base X' _ => hF w _ base mg X G.T.g (seer_move (mg := mg) X X' c.roots (G.T.seer free))) hb
    (fun H _ hS => ⟨a, ns, rfl, hlen, hbits, hS, fun _ => rfl⟩) fun H e s' z => by
      obtain ⟨_, _, _, _, _, _, _, _, _, _, _, _, z⟩ := z
      exact z
set_option Elab.async false
set_option linter.all false
set_option maxRecDepth 100000
set_option maxHeartbeats 1000000
open PySem L2
section
variable (i j : Int)
theorem addI_i : addI (.int i) (.int j) = .ok (.int (i + j)) := rfl
theorem subI_i : subI (.int i) (.int j) = .ok (.int (i - j)) := rfl
theorem fdivI_i : fdivI (.int i) (.int j) = if j = 0 then .stuck else .ok (.int (i.fdiv j)) := by
  show (if j ≠ 0 then _ else _) = _
  by_cases h : j = 0 <;> simp [h]
theorem modI_i : modI (.int i) (.int j) = if j = 0 then .stuck else .ok (.int (i.fmod j)) := by
  show (if j ≠ 0 then _ else _) = _
  by_cases h : j = 0 <;> simp [h]
theorem gcdI_i : gcdI (.int i) (.int j) = .ok (.int ((Nat.gcd i.natAbs j.natAbs : Nat) : Int)) := rfl
theorem ltI_i : ltI (.int i) (.int j) = .ok (.bl (decide (i < j))) := rfl
theorem leI_i : leI (.int i) (.int j) = .ok (.bl (decide (i ≤ j))) := rfl
theorem gtI_i : gtI (.int i) (.int j) = .ok (.bl (decide (j < i))) := rfl
theorem atI_n {α : Type} (xs : List α) (n : Nat) : atI xs (n : Int) = xs[n]? := by
  unfold atI ixN
  rw [if_pos (Int.natCast_nonneg n)]
  by_cases h : (n : Int) < xs.length
  · simp [h]
  · have : xs.length ≤ n := by omega
    simp [h, this]
theorem atI_pos {α : Type} (xs : List α) {i : Int} (h : 0 ≤ i) : atI xs i = xs[i.toNat]? := by
  have e := atI_n xs i.toNat
  rw [Int.toNat_of_nonneg h] at e
  exact e
theorem pow_18 : powI (.int 10) (.int 18) = .ok (.int 1000000000000000000) := by
  unfold powI intD
  dsimp only
  rw [if_pos (by unfold CPow; decide)] <;> rfl
theorem size_eq : sizeLine = 16777216 := rfl
theorem atI_0 {α : Type} (x : α) (r : List α) : atI (x :: r) 0 = some x := atI_n _ 0
theorem atI_1 {α : Type} (x y : α) (r : List α) : atI (x :: y :: r) 1 = some y := atI_n _ 1
theorem atI_2 {α : Type} (x y z : α) (r : List α) : atI (x :: y :: z :: r) 2 = some z := atI_n _ 2
theorem atI_3 {α : Type} (x y z u : α) (r : List α) : atI (x :: y :: z :: u :: r) 3 = some u := atI_n _ 3
theorem geI_i : geI (.int i) (.int j) = .ok (.bl (decide (j ≤ i))) := rfl
end
local macro_rules
  | `(tactic| wp_walk using $ts,*) => `(tactic| simp only [runD, runF, runI, enter, E.var, E.c, E.op2, E.op1, E.nil, E.cons, E.app, E.appF, E.lst, E.and, E.or, E.not, E.ite, E.own2, E.meth, E.fld, E.prop, E.len, E.ix, E.tupl, E.disp, E.asTup, E.rng1, E.rng2, E.chain, E.cat, E.part, E.nopart, E.cutL,
      Z.own, Z.lst, Z.tup, Z.seq, objR, T.tst, T.and, T.or, T.not, S.skip, S.brk, S.cnt, S.lift, S.seq, S.set, S.setF, S.expr, S.ret, S.retF, S.retN, S.retO, S.ite, S.tgt, S.gnil, S.gcons, S.gtup, S.asg, S.raise, S.tryO, S.fld, S.par, S.app, S.setAt, S.pop, S.forE,
      isiR, addI_i, subI_i, fdivI_i, modI_i, negI, absI, intC, gcdI_i, ltI_i, leI_i, gtI_i, geI_i, eqS, neS, isN, notN,
      Res.bind_ok, Res.bind_stuck, Res.bind_exc, List.map_cons, List.map_nil, List.length_cons, List.length_nil, List.getElem?_cons_zero, List.getElem?_cons_succ, List.set_cons_zero, List.set_cons_succ, List.cons_append, List.nil_append, List.append_nil, List.append_eq, List.reduceReplicate, List.replicate_zero, 
      Nat.reduceAdd, Nat.reduceSub, Nat.reduceLT, Nat.reduceLeDiff, Nat.zero_add, Nat.reduceEqDiff, and_self, and_true, true_and, reduceIte, ite_true, ite_false, if_true, if_false, Option.bind_some, Option.bind, decide_true, decide_false, Bool.not_true, Bool.not_false, Bool.false_eq_true, Bool.true_eq_false, Int.reduceNeg, ne_eq, not_true_eq_false, not_false_eq_true, Int.reduceEq, Nat.lt_add_one, Nat.zero_le, size_eq, pow_18, atI_0, atI_1, atI_2, atI_3, $[$ts:term],*])
  | `(tactic| wp_walk) => `(tactic| simp only [runD, runF, runI, enter, E.var, E.c, E.op2, E.op1, E.nil, E.cons, E.app, E.appF, E.lst, E.and, E.or, E.not, E.ite, E.own2, E.meth, E.fld, E.prop, E.len, E.ix, E.tupl, E.disp, E.asTup, E.rng1, E.rng2, E.chain, E.cat, E.part, E.nopart, E.cutL,
      Z.own, Z.lst, Z.tup, Z.seq, objR, T.tst, T.and, T.or, T.not, S.skip, S.brk, S.cnt, S.lift, S.seq, S.set, S.setF, S.expr, S.ret, S.retF, S.retN, S.retO, S.ite, S.tgt, S.gnil, S.gcons, S.gtup, S.asg, S.raise, S.tryO, S.fld, S.par, S.app, S.setAt, S.pop, S.forE,
      isiR, addI_i, subI_i, fdivI_i, modI_i, negI, absI, intC, gcdI_i, ltI_i, leI_i, gtI_i, geI_i, eqS, neS, isN, notN,
      Res.bind_ok, Res.bind_stuck, Res.bind_exc, List.map_cons, List.map_nil, List.length_cons, List.length_nil, List.getElem?_cons_zero, List.getElem?_cons_succ, List.set_cons_zero, List.set_cons_succ, List.cons_append, List.nil_append, List.append_nil, List.append_eq, List.reduceReplicate, List.replicate_zero, 
      Nat.reduceAdd, Nat.reduceSub, Nat.reduceLT, Nat.reduceLeDiff, Nat.zero_add, Nat.reduceEqDiff, and_self, and_true, true_and, reduceIte, ite_true, ite_false, if_true, if_false, Option.bind_some, Option.bind, decide_true, decide_false, Bool.not_true, Bool.not_false, Bool.false_eq_true, Bool.true_eq_false, Int.reduceNeg, ne_eq, not_true_eq_false, not_false_eq_true, Int.reduceEq, Nat.lt_add_one, Nat.zero_le, size_eq, pow_18, atI_0, atI_1, atI_2, atI_3])
/-- (kept apart: the kernel must not meet the bound beside a cast) -/
theorem rng1_ok {f : Env → Res D} {ρ : Env} {j : Int} (h : f ρ = .ok (.int j)) (hj : j < 1000000) (h0 : -1000000 < j) : E.rng1 f ρ = .ok (rngD 0 j.toNat) := by
  unfold E.rng1
  rw [h]
  simp only [Res.bind_ok]
  rw [if_pos ⟨by omega, by omega⟩]
theorem rng1_n {f : Env → Res D} {ρ : Env} {n : Nat} (h : f ρ = .ok (.int n)) (hn : n < 1000000) : E.rng1 f ρ = .ok (rngD 0 n) := by
  rw [rng1_ok h (by omega) (by omega), Int.toNat_natCast]
/-! ### sizes -/
theorem bits_le {x : Int} {n : Nat} (h : x.natAbs < 2 ^ n) : Builtin.Int.intBits x ≤ n := by
  unfold Builtin.Int.intBits
  split
  · exact Nat.zero_le n
  · rename_i q
    have x0 : x.natAbs ≠ 0 := fun z => q (by simp [Int.natAbs_eq_zero.mp z])
    have := (Nat.log2_lt x0).mpr h
    omega
theorem lt_of_bits {x : Int} {n : Nat} (h : Builtin.Int.intBits x ≤ n) : x.natAbs < 2 ^ n := by
  unfold Builtin.Int.intBits at h
  split at h
  · rename_i q
    rw [beq_iff_eq.mp q]
    exact Nat.two_pow_pos n
  · rename_i q
    have x0 : x.natAbs ≠ 0 := fun z => q (by simp [Int.natAbs_eq_zero.mp z])
    exact (Nat.log2_lt x0).mp (by omega)
theorem mulok {x y : Int} {n m : Nat} (hx : x.natAbs < 2 ^ n) (hy : y.natAbs < 2 ^ m) (h : n + m ≤ 100000000) : IntMulOk x y := by
  have a := bits_le hx
  have b := bits_le hy
  unfold IntMulOk
  simp only [Bool.and_eq_true, not_and, Builtin.Int.intTooBig, decide_eq_true_eq]
  intro _ q
  have e : (bitsLine : Int) = 134217728 := by decide
  omega
theorem mulok1 {x y : Int} (hy : y.natAbs < 2 ^ 64) : IntMulOk x y := by
  have b := bits_le hy
  unfold IntMulOk
  simp only [Bool.and_eq_true, not_and, decide_eq_true_eq]
  intro q
  have e : shortFactorBits = 64 := rfl
  omega
theorem mul_lt {x y : Int} {n m : Nat} (hx : x.natAbs < 2 ^ n) (hy : y.natAbs < 2 ^ m) : (x * y).natAbs < 2 ^ (n + m) := by
  rw [Int.natAbs_mul, Nat.pow_add]
  exact Nat.mul_lt_mul'' hx hy
theorem add_lt {x y : Int} {n : Nat} (hx : x.natAbs < 2 ^ n) (hy : y.natAbs < 2 ^ n) : (x + y).natAbs < 2 ^ (n + 1) := by
  have := Int.natAbs_add_le x y
  rw [Nat.pow_succ]
  omega
theorem sub_lt {x y : Int} {n : Nat} (hx : x.natAbs < 2 ^ n) (hy : y.natAbs < 2 ^ n) : (x - y).natAbs < 2 ^ (n + 1) := by
  have := Int.natAbs_sub_le x y
  rw [Nat.pow_succ]
  omega
theorem pow_mono {x n m : Nat} (h : x < 2 ^ n) (k : n ≤ m) : x < 2 ^ m := Nat.lt_of_lt_of_le h (Nat.pow_le_pow_right (by decide) k)
/-- numerator and denominator have at most n bits -/
structure Qb (n : Nat) (q : Rat) : Prop where
  num : q.num.natAbs < 2 ^ n
  den : q.den < 2 ^ n
theorem Qb.mono {n m : Nat} {q : Rat} (h : Qb n q) (k : n ≤ m) : Qb m q := ⟨pow_mono h.num k, pow_mono h.den k⟩
theorem Qb.den' {n : Nat} {q : Rat} (h : Qb n q) : ((q.den : Int)).natAbs < 2 ^ n := h.den
theorem natAbs_ediv_le (a : Int) (b : Nat) : (a / (b : Int)).natAbs ≤ a.natAbs := Int.natAbs_ediv_le_natAbs a b
theorem divInt_num_le (n d : Int) : (Rat.divInt n d).num.natAbs ≤ n.natAbs := by
  rw [Rat.num_divInt]
  have h := Int.natAbs_ediv_le_natAbs (d.sign * n) (d.gcd n)
  have e : (d.sign * n).natAbs ≤ n.natAbs := by
    rw [Int.natAbs_mul]
    have : d.sign.natAbs ≤ 1 := by
      rcases Int.sign_trichotomy d with h | h | h <;> rw [h] <;> decide
    exact Nat.le_trans (Nat.mul_le_mul_right _ this) (by omega)
  omega
theorem divInt_den_le (n d : Int) (h : d ≠ 0) : (Rat.divInt n d).den ≤ d.natAbs := by
  rw [Rat.den_divInt, if_neg h]
  exact Nat.div_le_self _ _
theorem Qb.divInt {n d : Int} {k : Nat} (hn : n.natAbs < 2 ^ k) (hd : d.natAbs < 2 ^ k) (h : d ≠ 0) : Qb k (Rat.divInt n d) := ⟨Nat.lt_of_le_of_lt (divInt_num_le n d) hn, Nat.lt_of_le_of_lt (divInt_den_le n d h) hd⟩
theorem den_ne (q : Rat) : (q.den : Int) ≠ 0 := by exact_mod_cast q.den_nz
theorem add_q (a b : Rat) : Rat.divInt (a.num * b.den + b.num * a.den) (a.den * b.den) = a + b := by
  rw [← Rat.divInt_add_divInt a.num b.num (den_ne a) (den_ne b), Rat.num_divInt_den, Rat.num_divInt_den]
theorem sub_q (a b : Rat) : Rat.divInt (a.num * b.den - b.num * a.den) (a.den * b.den) = a - b := by
  have h := Rat.divInt_add_divInt a.num (-b.num) (den_ne a) (den_ne b)
  rw [← Rat.neg_divInt, Rat.num_divInt_den, Rat.num_divInt_den, ← Rat.sub_eq_add_neg] at h
  rw [h]
  congr 1
  grind
theorem mul_q (a b : Rat) : Rat.divInt (a.num * b.num) (a.den * b.den) = a * b := by
  rw [← Rat.divInt_mul_divInt, Rat.num_divInt_den, Rat.num_divInt_den]
theorem inv_q (a : Rat) : Rat.divInt a.den a.num = a⁻¹ := (Rat.inv_def a).symm
theorem neg_q (a : Rat) : Rat.divInt (-a.num) a.den = -a := by rw [← Rat.neg_divInt, Rat.num_divInt_den]
theorem div_q (a b : Rat) : Rat.divInt (a.num * b.den) (a.den * b.num) = a / b := by
  rw [Rat.div_def, ← inv_q b, ← Rat.divInt_mul_divInt]
  first | rw [Rat.num_divInt_den]
theorem Qb.add {n m : Nat} {a b : Rat} (ha : Qb n a) (hb : Qb m b) : Qb (n + m + 1) (a + b) := by
  rw [← add_q]
  refine .divInt (add_lt (mul_lt ha.num hb.den') ?_) (pow_mono (mul_lt ha.den' hb.den') (by omega)) (Int.mul_ne_zero (den_ne a) (den_ne b))
  rw [Nat.add_comm n m]
  exact mul_lt hb.num ha.den'
theorem Qb.sub {n m : Nat} {a b : Rat} (ha : Qb n a) (hb : Qb m b) : Qb (n + m + 1) (a - b) := by
  rw [← sub_q]
  refine .divInt (sub_lt (mul_lt ha.num hb.den') ?_) (pow_mono (mul_lt ha.den' hb.den') (by omega)) (Int.mul_ne_zero (den_ne a) (den_ne b))
  rw [Nat.add_comm n m]
  exact mul_lt hb.num ha.den'
theorem Qb.mul {n m : Nat} {a b : Rat} (ha : Qb n a) (hb : Qb m b) : Qb (n + m) (a * b) := by
  rw [← mul_q]
  exact .divInt (mul_lt ha.num hb.num) (mul_lt ha.den' hb.den') (Int.mul_ne_zero (den_ne a) (den_ne b))
theorem Qb.neg {n : Nat} {a : Rat} (ha : Qb n a) : Qb n (-a) := by
  rw [← neg_q]
  exact .divInt (by rw [Int.natAbs_neg]; exact ha.num) ha.den' (den_ne a)
theorem Qb.zero : Qb 1 0 := ⟨by decide, by decide⟩
theorem Qb.one : Qb 1 1 := ⟨by decide, by decide⟩
theorem Qb.inv {n : Nat} {a : Rat} (ha : Qb n a) (hn : 1 ≤ n) : Qb n a⁻¹ := by
  by_cases z : a.num = 0
  · rw [← inv_q, z]
    exact Qb.mono (show Qb 1 (Rat.divInt (a.den : Int) 0) by rw [Rat.divInt_zero]; exact Qb.zero) hn
  · rw [← inv_q]
    exact .divInt ha.den' ha.num z
theorem Qb.div {n m : Nat} {a b : Rat} (ha : Qb n a) (hb : Qb m b) (hm : 1 ≤ m) : Qb (n + m) (a / b) := by
  rw [Rat.div_def]
  exact ha.mul (hb.inv hm)
theorem Qb.pow {n : Nat} {a : Rat} (ha : Qb n a) : ∀ k : Nat, Qb (n * k + 1) (a ^ k)
  | 0 => by rw [Rat.pow_zero]; exact Qb.one.mono (by omega)
  | k + 1 => by
    rw [Rat.pow_succ]
    exact ((Qb.pow ha k).mul ha).mono (by rw [Nat.mul_succ]; omega)
set_option Elab.async false
set_option linter.all false
set_option maxRecDepth 100000
set_option maxHeartbeats 0
open PySem L2
def nmOf : Nat → Str
  | 20 => "Fault"
  | 21 => "ZeroDivisor"
  | 0 => "Ratio"
  | _ => ""
def fldOf : Nat → List Str
  | 0 => ["n", "d"]
  | _ => []
def gam (P : Program) (w : World) (K : PySem.W.Frag) (mg : Str → Option Value) (base : Heap) : Gam := ⟨P, w, K, mg, base, fun c => He.ga K (nmOf c), fldOf⟩
def top (i : Nat) : Stmt := PySem.Challenge.pw_indicial_k01_arithmetic.main.body.getD i (.Pass ⟨0, 0, 0, 0⟩)
def eqL : List Nat := [0]
abbrev st_law_cell : Stmt := top 10
abbrev st_law_draws : Stmt := top 11
abbrev st_law_gcd : Stmt := top 12
abbrev st_law_rat : Stmt := top 13
abbrev st_law_drawn : Stmt := top 18
abbrev st_Ratio_init : Stmt := inClass (top 7) 0
abbrev st_law_add : Stmt := top 14
abbrev st_law_mul : Stmt := top 15
abbrev st_Ratio_add : Stmt := inClass (top 7) 1
abbrev st_Ratio_sub : Stmt := inClass (top 7) 2
abbrev st_Ratio_mul : Stmt := inClass (top 7) 3
abbrev st_Ratio_neg : Stmt := inClass (top 7) 4
abbrev st_Ratio_inverse : Stmt := inClass (top 7) 7
abbrev st_Ratio_over : Stmt := inClass (top 7) 8
abbrev st_law_power : Stmt := top 19
abbrev st_Ratio_power : Stmt := inClass (top 7) 9
abbrev st_total : Stmt := top 8
abbrev st_law_is_integer : Stmt := top 16
abbrev st_law_pair : Stmt := top 17
abbrev st_Ratio_compare : Stmt := inClass (top 7) 10
abbrev st_Ratio_sign : Stmt := inClass (top 7) 11
abbrev st_Ratio_floor : Stmt := inClass (top 7) 12
abbrev st_Ratio_whole : Stmt := inClass (top 7) 14
abbrev st_Ratio_is_zero : Stmt := inClass (top 7) 13
abbrev st_law_no_inverse : Stmt := top 20
abbrev st_law : Stmt := top 21
def isi_Ratio : D → Option Bool := Tst.f ⟨false, false, false, false, false, false, [(0, true)]⟩
def isi_bool : D → Option Bool := Tst.f ⟨false, true, false, false, false, false, [(0, false)]⟩
def isi_int : D → Option Bool := Tst.f ⟨false, true, true, false, false, false, [(0, false)]⟩
def sub_ZeroDivisor : Nat → Option Bool := fun c => ([(20, false), (21, true)] : List (Nat × Bool)).lookup c
structure Base (Γ : Gam) : Prop where
  n_abs : Γ.mg "abs" = none
  n_bool : Γ.mg "bool" = none
  n_int : Γ.mg "int" = none
  n_isinstance : Γ.mg "isinstance" = none
  n_len : Γ.mg "len" = none
  n_range : Γ.mg "range" = none
  gcd : Γ.mg "gcd" = some (.builtin "math.gcd")
  k_Ratio : ClsOk Γ 0 "Ratio"
  fl_Ratio : Γ.fld 0 = (["n", "d"] : List Str)
  na_Ratio_d : NoAttr Γ.K (Γ.cls 0) "d"
  na_Ratio_n : NoAttr Γ.K (Γ.cls 0) "n"
  fd_law_cell : ∃ g, FunD Γ.K "_law_cell" "_law_cell" (defArgs st_law_cell) (defBody st_law_cell) (defScope st_law_cell) [] [] (He.ga Γ.K "_law_cell") g
  g_law_cell : Glo Γ "_law_cell" (He.ga Γ.K "_law_cell")
  fd_law_draws : ∃ g, FunD Γ.K "_law_draws" "_law_draws" (defArgs st_law_draws) (defBody st_law_draws) (defScope st_law_draws) [] [] (He.ga Γ.K "_law_draws") g
  g_law_draws : Glo Γ "_law_draws" (He.ga Γ.K "_law_draws")
  fd_law_gcd : ∃ g, FunD Γ.K "_law_gcd" "_law_gcd" (defArgs st_law_gcd) (defBody st_law_gcd) (defScope st_law_gcd) [] [] (He.ga Γ.K "_law_gcd") g
  g_law_gcd : Glo Γ "_law_gcd" (He.ga Γ.K "_law_gcd")
  fd_law_rat : ∃ g, FunD Γ.K "_law_rat" "_law_rat" (defArgs st_law_rat) (defBody st_law_rat) (defScope st_law_rat) [] [] (He.ga Γ.K "_law_rat") g
  g_law_rat : Glo Γ "_law_rat" (He.ga Γ.K "_law_rat")
  fd_law_drawn : ∃ g, FunD Γ.K "_law_drawn" "_law_drawn" (defArgs st_law_drawn) (defBody st_law_drawn) (defScope st_law_drawn) [] [] (He.ga Γ.K "_law_drawn") g
  g_law_drawn : Glo Γ "_law_drawn" (He.ga Γ.K "_law_drawn")
  fd_Ratio_init : ∃ g, FunD Γ.K "__init__" "Ratio.__init__" (defArgs st_Ratio_init) (defBody st_Ratio_init) (defScope st_Ratio_init) [(.int 1)] [] (He.ma Γ.K (He.ga Γ.K "Ratio") "__init__") g
  mk_Ratio : Mk Γ.K (Γ.cls 0) (He.ma Γ.K (He.ga Γ.K "Ratio") "__init__")
  fd_law_add : ∃ g, FunD Γ.K "_law_add" "_law_add" (defArgs st_law_add) (defBody st_law_add) (defScope st_law_add) [] [] (He.ga Γ.K "_law_add") g
  g_law_add : Glo Γ "_law_add" (He.ga Γ.K "_law_add")
  fd_law_mul : ∃ g, FunD Γ.K "_law_mul" "_law_mul" (defArgs st_law_mul) (defBody st_law_mul) (defScope st_law_mul) [] [] (He.ga Γ.K "_law_mul") g
  g_law_mul : Glo Γ "_law_mul" (He.ga Γ.K "_law_mul")
  fd_Ratio_add : ∃ g, FunD Γ.K "__add__" "Ratio.__add__" (defArgs st_Ratio_add) (defBody st_Ratio_add) (defScope st_Ratio_add) [] [] (He.ma Γ.K (He.ga Γ.K "Ratio") "__add__") g
  mt_Ratio_add : Meth Γ.K (Γ.cls 0) "__add__" (He.ma Γ.K (He.ga Γ.K "Ratio") "__add__")
  fd_Ratio_sub : ∃ g, FunD Γ.K "__sub__" "Ratio.__sub__" (defArgs st_Ratio_sub) (defBody st_Ratio_sub) (defScope st_Ratio_sub) [] [] (He.ma Γ.K (He.ga Γ.K "Ratio") "__sub__") g
  mt_Ratio_sub : Meth Γ.K (Γ.cls 0) "__sub__" (He.ma Γ.K (He.ga Γ.K "Ratio") "__sub__")
  fd_Ratio_mul : ∃ g, FunD Γ.K "__mul__" "Ratio.__mul__" (defArgs st_Ratio_mul) (defBody st_Ratio_mul) (defScope st_Ratio_mul) [] [] (He.ma Γ.K (He.ga Γ.K "Ratio") "__mul__") g
  mt_Ratio_mul : Meth Γ.K (Γ.cls 0) "__mul__" (He.ma Γ.K (He.ga Γ.K "Ratio") "__mul__")
  fd_Ratio_neg : ∃ g, FunD Γ.K "__neg__" "Ratio.__neg__" (defArgs st_Ratio_neg) (defBody st_Ratio_neg) (defScope st_Ratio_neg) [] [] (He.ma Γ.K (He.ga Γ.K "Ratio") "__neg__") g
  mt_Ratio_neg : Meth Γ.K (Γ.cls 0) "__neg__" (He.ma Γ.K (He.ga Γ.K "Ratio") "__neg__")
  fd_Ratio_inverse : ∃ g, FunD Γ.K "inverse" "Ratio.inverse" (defArgs st_Ratio_inverse) (defBody st_Ratio_inverse) (defScope st_Ratio_inverse) [] [] (He.ma Γ.K (He.ga Γ.K "Ratio") "inverse") g
  mt_Ratio_inverse : Meth Γ.K (Γ.cls 0) "inverse" (He.ma Γ.K (He.ga Γ.K "Ratio") "inverse")
  fd_Ratio_over : ∃ g, FunD Γ.K "over" "Ratio.over" (defArgs st_Ratio_over) (defBody st_Ratio_over) (defScope st_Ratio_over) [] [] (He.ma Γ.K (He.ga Γ.K "Ratio") "over") g
  mt_Ratio_over : Meth Γ.K (Γ.cls 0) "over" (He.ma Γ.K (He.ga Γ.K "Ratio") "over")
  fd_law_power : ∃ g, FunD Γ.K "_law_power" "_law_power" (defArgs st_law_power) (defBody st_law_power) (defScope st_law_power) [] [] (He.ga Γ.K "_law_power") g
  g_law_power : Glo Γ "_law_power" (He.ga Γ.K "_law_power")
  fd_Ratio_power : ∃ g, FunD Γ.K "power" "Ratio.power" (defArgs st_Ratio_power) (defBody st_Ratio_power) (defScope st_Ratio_power) [] [] (He.ma Γ.K (He.ga Γ.K "Ratio") "power") g
  mt_Ratio_power : Meth Γ.K (Γ.cls 0) "power" (He.ma Γ.K (He.ga Γ.K "Ratio") "power")
  fd_total : ∃ g, FunD Γ.K "total" "total" (defArgs st_total) (defBody st_total) (defScope st_total) [] [] (He.ga Γ.K "total") g
  g_total : Glo Γ "total" (He.ga Γ.K "total")
  fd_law_is_integer : ∃ g, FunD Γ.K "_law_is_integer" "_law_is_integer" (defArgs st_law_is_integer) (defBody st_law_is_integer) (defScope st_law_is_integer) [] [] (He.ga Γ.K "_law_is_integer") g
  g_law_is_integer : Glo Γ "_law_is_integer" (He.ga Γ.K "_law_is_integer")
  fd_law_pair : ∃ g, FunD Γ.K "_law_pair" "_law_pair" (defArgs st_law_pair) (defBody st_law_pair) (defScope st_law_pair) [] [] (He.ga Γ.K "_law_pair") g
  g_law_pair : Glo Γ "_law_pair" (He.ga Γ.K "_law_pair")
  fd_Ratio_compare : ∃ g, FunD Γ.K "compare" "Ratio.compare" (defArgs st_Ratio_compare) (defBody st_Ratio_compare) (defScope st_Ratio_compare) [] [] (He.ma Γ.K (He.ga Γ.K "Ratio") "compare") g
  mt_Ratio_compare : Meth Γ.K (Γ.cls 0) "compare" (He.ma Γ.K (He.ga Γ.K "Ratio") "compare")
  fd_Ratio_sign : ∃ g, FunD Γ.K "sign" "Ratio.sign" (defArgs st_Ratio_sign) (defBody st_Ratio_sign) (defScope st_Ratio_sign) [] [] (He.ma Γ.K (He.ga Γ.K "Ratio") "sign") g
  mt_Ratio_sign : Meth Γ.K (Γ.cls 0) "sign" (He.ma Γ.K (He.ga Γ.K "Ratio") "sign")
  fd_Ratio_floor : ∃ g, FunD Γ.K "floor" "Ratio.floor" (defArgs st_Ratio_floor) (defBody st_Ratio_floor) (defScope st_Ratio_floor) [] [] (He.ma Γ.K (He.ga Γ.K "Ratio") "floor") g
  mt_Ratio_floor : Meth Γ.K (Γ.cls 0) "floor" (He.ma Γ.K (He.ga Γ.K "Ratio") "floor")
  fd_Ratio_whole : ∃ g, FunD Γ.K "whole" "Ratio.whole" (defArgs st_Ratio_whole) (defBody st_Ratio_whole) (defScope st_Ratio_whole) [] [] (getterAt Γ.K (He.ga Γ.K "Ratio") "whole") g
  pr_Ratio_whole : PropOf Γ.K (Γ.cls 0) "whole" (He.ma Γ.K (He.ga Γ.K "Ratio") "whole") (getterAt Γ.K (He.ga Γ.K "Ratio") "whole")
  fd_Ratio_is_zero : ∃ g, FunD Γ.K "is_zero" "Ratio.is_zero" (defArgs st_Ratio_is_zero) (defBody st_Ratio_is_zero) (defScope st_Ratio_is_zero) [] [] (He.ma Γ.K (He.ga Γ.K "Ratio") "is_zero") g
  mt_Ratio_is_zero : Meth Γ.K (Γ.cls 0) "is_zero" (He.ma Γ.K (He.ga Γ.K "Ratio") "is_zero")
  fd_law_no_inverse : ∃ g, FunD Γ.K "_law_no_inverse" "_law_no_inverse" (defArgs st_law_no_inverse) (defBody st_law_no_inverse) (defScope st_law_no_inverse) [] [] (He.ga Γ.K "_law_no_inverse") g
  g_law_no_inverse : Glo Γ "_law_no_inverse" (He.ga Γ.K "_law_no_inverse")
  fd_law : ∃ g, FunD Γ.K "law" "law" (defArgs st_law) (defBody st_law) (defScope st_law) [] [] (He.ga Γ.K "law") g
  x_ZeroDivisor : ExcOk Γ 21 "ZeroDivisor"
  isi_Ratio : IsiOk Γ (.ref (Γ.cls 0)) isi_Ratio
  isi_bool : IsiOk Γ (.type "bool") isi_bool
  isi_int : IsiOk Γ (.type "int") isi_int
  c_ZeroDivisor : CatchOk Γ (.ref (Γ.cls 21)) sub_ZeroDivisor
  cg_ZeroDivisor : Γ.mg "ZeroDivisor" = some (.ref (Γ.cls 21))
theorem fld_Ratio_d {Γ : Gam} (B : Base Γ) : FldOk Γ 0 1 "d" := ⟨by rw [B.fl_Ratio] <;> rfl, by rw [B.fl_Ratio]; decide, B.na_Ratio_d⟩
theorem fld_Ratio_n {Γ : Gam} (B : Base Γ) : FldOk Γ 0 0 "n" := ⟨by rw [B.fl_Ratio] <;> rfl, by rw [B.fl_Ratio]; decide, B.na_Ratio_n⟩
/-! _law_cell -/
theorem sc_law_cell : FnScope ["_law_script", "_law_k"] ["_law_script", "_law_k"] (defScope st_law_cell) := ⟨rfl, rfl, rfl, by decide +kernel, rfl, by decide +kernel, by decide +kernel⟩
def b_law_cell : Env → Out :=
 (S.seq (S.ite (T.tst (E.op2 ltI (E.var 1) (E.len (Z.lst (E.var 0)))))
  (S.ret (E.ix (Z.lst (E.var 0)) (E.var 1)))
  S.skip)
  (S.ret (E.c (.int 0))))
theorem bd_law_cell {Γ : Gam} (T : Top Γ) (B : Base Γ) : Body Γ (40) ["_law_script", "_law_k"] "_law_cell" (defScope st_law_cell) (He.ga Γ.K "_law_cell") (defBody st_law_cell) b_law_cell := fun _ _ _ _ _ _ =>
 (dss_cons (ds_ite (dt_cmp od_lt ltI_n (de_var 1) (de_len (dq_lst (de_var 0)) B.n_len) (nomark _))
  (dss_one (ds_ret (de_ix (dq_lst (de_var 0)) (de_var 1))))
  dss_nil)
  (dss_one (ds_ret de_int)))
def f_law_cell : List D → Res D := runD 2 2 b_law_cell
theorem ok_law_cell {Γ : Gam} (T : Top Γ) (B : Base Γ) : Cal Γ 41 (He.ga Γ.K "_law_cell") f_law_cell := cal_mk B.fd_law_cell sc_law_cell T (bd_law_cell T B) (fun _ _ _ _ _ _ us hl => match us, hl with | [_, _], _ => rfl)
/-! _law_draws -/
theorem sc_law_draws : FnScope ["_law_script", "_law_at", "_law_count", "_law_bound", "_law_cell_here", "_law_out", "_law_k", "_law_number", "_law_mixed"] ["_law_script", "_law_at", "_law_count", "_law_bound"] (defScope st_law_draws) := ⟨rfl, rfl, rfl, by decide +kernel, rfl, by decide +kernel, by decide +kernel⟩
def b_law_draws : Env → Out :=
 (S.seq (S.set 4 (E.app f_law_cell (E.cons (E.var 0) (E.cons (E.var 1) E.nil))))
  (S.seq (S.setF 5 (E.disp E.nil))
  (S.seq (S.ite (T.tst (E.op2 geI (E.var 4) (E.op2 powI (E.c (.int 10)) (E.c (.int 18)))))
  (S.seq (S.forE (E.rng1 (E.var 2)) (S.tgt 6)
  (S.seq (S.app 5 (E.op2 modI (E.op1 intC (E.var 4)) (E.var 3)))
  (S.set 4 (E.op2 fdivI (E.op1 intC (E.var 4)) (E.var 3)))))
  (S.retO 5))
  S.skip)
  (S.seq (S.set 7 (E.op2 addI (E.op2 addI (E.op2 modI (E.op1 intC (E.var 4)) (E.c (.int 2147483647))) (E.op2 mulI (E.c (.int 3)) (E.var 1))) (E.c (.int 1))))
  (S.seq (S.forE (E.rng1 (E.var 2)) (S.tgt 6)
  (S.seq (S.set 7 (E.op2 modI (E.op1 intC (E.op2 addI (E.op2 addI (E.op2 mulI (E.var 7) (E.c (.int 48271))) (E.op2 mulI (E.c (.int 11)) (E.var 6))) (E.var 1))) (E.c (.int 2147483647))))
  (S.seq (S.set 8 (E.op2 modI (E.op1 intC (E.op2 addI (E.op2 addI (E.op2 mulI (E.var 7) (E.c (.int 69621))) (E.op2 mulI (E.c (.int 5)) (E.var 6))) (E.c (.int 7)))) (E.c (.int 2147483629))))
  (S.app 5 (E.op2 modI (E.op1 intC (E.var 8)) (E.var 3))))))
  (S.retO 5))))))
theorem bd_law_draws {Γ : Gam} (T : Top Γ) (B : Base Γ) : Body Γ (41) ["_law_script", "_law_at", "_law_count", "_law_bound", "_law_cell_here", "_law_out", "_law_k", "_law_number", "_law_mixed"] "_law_draws" (defScope st_law_draws) (He.ga Γ.K "_law_draws") (defBody st_law_draws) b_law_draws := fun _ _ _ _ _ _ =>
 (dss_cons (ds_set 4 sc_law_draws.nd (he := (de_call B.g_law_cell (ok_law_cell T B) (da_cons (de_var 0) (da_cons (de_var 1) da_nil)))))
  (dss_cons (ds_setF 5 sc_law_draws.nd (he := (df_lst da_nil)))
  (dss_cons (ds_ite (dt_cmp od_ge geI_n (de_var 4) (de_op2 od_pow powI_n de_int de_int) (nomark _))
  (dss_cons (ds_for (di_rng1 (de_var 2) B.n_range) (dg_name 6 sc_law_draws.nd)
  (dss_cons (ds_app 5 (de_op2 od_mod modI_n (de_intC (de_var 4) B.n_int) (de_var 3)))
  (dss_one (ds_set 4 sc_law_draws.nd (he := (de_op2 od_fdiv fdivI_n (de_intC (de_var 4) B.n_int) (de_var 3)))))))
  (dss_one (ds_retO 5)))
  dss_nil)
  (dss_cons (ds_set 7 sc_law_draws.nd (he := (de_op2 od_add addI_n (de_op2 od_add addI_n (de_op2 od_mod modI_n (de_intC (de_var 4) B.n_int) de_int) (de_op2 od_mul mulI_n de_int (de_var 1))) de_int)))
  (dss_cons (ds_for (di_rng1 (de_var 2) B.n_range) (dg_name 6 sc_law_draws.nd)
  (dss_cons (ds_set 7 sc_law_draws.nd (he := (de_op2 od_mod modI_n (de_intC (de_op2 od_add addI_n (de_op2 od_add addI_n (de_op2 od_mul mulI_n (de_var 7) de_int) (de_op2 od_mul mulI_n de_int (de_var 6))) (de_var 1)) B.n_int) de_int)))
  (dss_cons (ds_set 8 sc_law_draws.nd (he := (de_op2 od_mod modI_n (de_intC (de_op2 od_add addI_n (de_op2 od_add addI_n (de_op2 od_mul mulI_n (de_var 7) de_int) (de_op2 od_mul mulI_n de_int (de_var 6))) de_int) B.n_int) de_int)))
  (dss_one (ds_app 5 (de_op2 od_mod modI_n (de_intC (de_var 8) B.n_int) (de_var 3)))))))
  (dss_one (ds_retO 5)))))))
def f_law_draws : List D → Res (List D) := runF 9 4 b_law_draws
theorem ok_law_draws {Γ : Gam} (T : Top Γ) (B : Base Γ) : CalF Γ 42 (He.ga Γ.K "_law_draws") f_law_draws := calF_mk B.fd_law_draws sc_law_draws T (bd_law_draws T B) (fun _ _ _ _ _ _ us hl => match us, hl with | [_, _, _, _], _ => rfl)
/-! _law_gcd -/
theorem sc_law_gcd : FnScope ["_law_a", "_law_b", "_law_one", "_law_two", "_law_rest"] ["_law_a", "_law_b"] (defScope st_law_gcd) := ⟨rfl, rfl, rfl, by decide +kernel, rfl, by decide +kernel, by decide +kernel⟩
def b_law_gcd : Env → Out :=
 (S.seq (S.set 2 (E.op1 absI (E.var 0)))
  (S.seq (S.set 3 (E.op1 absI (E.var 1)))
  (S.seq (S.whil (fuelI 3) (T.tst (E.op2 neS (E.var 3) (E.c (.int 0))))
  (S.seq (S.set 4 (E.op2 modI (E.op1 intC (E.var 2)) (E.var 3)))
  (S.seq (S.set 2 (E.var 3))
  (S.set 3 (E.var 4)))))
  (S.ret (E.var 2)))))
theorem bd_law_gcd {Γ : Gam} (T : Top Γ) (B : Base Γ) : Body Γ (40) ["_law_a", "_law_b", "_law_one", "_law_two", "_law_rest"] "_law_gcd" (defScope st_law_gcd) (He.ga Γ.K "_law_gcd") (defBody st_law_gcd) b_law_gcd := fun _ _ _ _ _ _ =>
 (dss_cons (ds_set 2 sc_law_gcd.nd (he := (de_abs (de_var 0) B.n_abs)))
  (dss_cons (ds_set 3 sc_law_gcd.nd (he := (de_abs (de_var 1) B.n_abs)))
  (dss_cons (ds_while (fuelI 3) (dt_cmp od_neS neS_n (de_var 3) de_int (nomark _))
  (dss_cons (ds_set 4 sc_law_gcd.nd (he := (de_op2 od_mod modI_n (de_intC (de_var 2) B.n_int) (de_var 3))))
  (dss_cons (ds_set 2 sc_law_gcd.nd (he := (de_var 3)))
  (dss_one (ds_set 3 sc_law_gcd.nd (he := (de_var 4)))))))
  (dss_one (ds_ret (de_var 2))))))
def f_law_gcd : List D → Res D := runD 5 2 b_law_gcd
theorem ok_law_gcd {Γ : Gam} (T : Top Γ) (B : Base Γ) : Cal Γ 41 (He.ga Γ.K "_law_gcd") f_law_gcd := cal_mk B.fd_law_gcd sc_law_gcd T (bd_law_gcd T B) (fun _ _ _ _ _ _ us hl => match us, hl with | [_, _], _ => rfl)
/-! _law_rat -/
theorem sc_law_rat : FnScope ["_law_n", "_law_d", "_law_common"] ["_law_n", "_law_d"] (defScope st_law_rat) := ⟨rfl, rfl, rfl, by decide +kernel, rfl, by decide +kernel, by decide +kernel⟩
def b_law_rat : Env → Out :=
 (S.seq (S.set 2 (E.app f_law_gcd (E.cons (E.var 0) (E.cons (E.var 1) E.nil))))
  (S.seq (S.ite (T.tst (E.op2 ltI (E.var 1) (E.c (.int 0))))
  (S.set 2 (E.op1 negI (E.var 2)))
  S.skip)
  (S.ret (E.tupl (E.cons (E.op2 fdivI (E.var 0) (E.var 2)) (E.cons (E.op2 fdivI (E.var 1) (E.var 2)) E.nil))))))
theorem bd_law_rat {Γ : Gam} (T : Top Γ) (B : Base Γ) : Body Γ (41) ["_law_n", "_law_d", "_law_common"] "_law_rat" (defScope st_law_rat) (He.ga Γ.K "_law_rat") (defBody st_law_rat) b_law_rat := fun _ _ _ _ _ _ =>
 (dss_cons (ds_set 2 sc_law_rat.nd (he := (de_call B.g_law_gcd (ok_law_gcd T B) (da_cons (de_var 0) (da_cons (de_var 1) da_nil)))))
  (dss_cons (ds_ite (dt_cmp od_lt ltI_n (de_var 1) de_int (nomark _))
  (dss_one (ds_set 2 sc_law_rat.nd (he := (de_neg (de_var 2)))))
  dss_nil)
  (dss_one (ds_ret (de_tupl (da_cons (de_op2 od_fdiv fdivI_n (de_var 0) (de_var 2)) (da_cons (de_op2 od_fdiv fdivI_n (de_var 1) (de_var 2)) da_nil)))))))
def f_law_rat : List D → Res D := runD 3 2 b_law_rat
theorem ok_law_rat {Γ : Gam} (T : Top Γ) (B : Base Γ) : Cal Γ 42 (He.ga Γ.K "_law_rat") f_law_rat := cal_mk B.fd_law_rat sc_law_rat T (bd_law_rat T B) (fun _ _ _ _ _ _ us hl => match us, hl with | [_, _], _ => rfl)
/-! _law_drawn -/
theorem sc_law_drawn : FnScope ["_law_script", "_law_at", "_law_row", "_law_n"] ["_law_script", "_law_at"] (defScope st_law_drawn) := ⟨rfl, rfl, rfl, by decide +kernel, rfl, by decide +kernel, by decide +kernel⟩
def b_law_drawn : Env → Out :=
 (S.seq (S.set 2 (E.lst (E.appF f_law_draws (E.cons (E.var 0) (E.cons (E.var 1) (E.cons (E.c (.int 4)) (E.cons (E.c (.int 121)) E.nil)))))))
  (S.seq (S.set 3 (E.op2 subI (E.ix (Z.lst (E.var 2)) (E.c (.int 1))) (E.c (.int 60))))
  (S.seq (S.ite (T.tst (E.op2 eqS (E.op2 modI (E.ix (Z.lst (E.var 2)) (E.c (.int 0))) (E.c (.int 4))) (E.c (.int 3))))
  (S.set 3 (E.app f_law_cell (E.cons (E.var 0) (E.cons (E.var 1) E.nil))))
  S.skip)
  (S.ret (E.app f_law_rat (E.cons (E.var 3) (E.cons (E.op2 addI (E.op2 modI (E.ix (Z.lst (E.var 2)) (E.c (.int 2))) (E.c (.int 40))) (E.c (.int 1))) E.nil)))))))
theorem bd_law_drawn {Γ : Gam} (T : Top Γ) (B : Base Γ) : Body Γ (42) ["_law_script", "_law_at", "_law_row", "_law_n"] "_law_drawn" (defScope st_law_drawn) (He.ga Γ.K "_law_drawn") (defBody st_law_drawn) b_law_drawn := fun _ _ _ _ _ _ =>
 (dss_cons (ds_set 2 sc_law_drawn.nd (he := (de_lst (df_call B.g_law_draws (ok_law_draws T B) (da_cons (de_var 0) (da_cons (de_var 1) (da_cons de_int (da_cons de_int da_nil))))))))
  (dss_cons (ds_set 3 sc_law_drawn.nd (he := (de_op2 od_sub subI_n (de_ix (dq_lst (de_var 2)) de_int) de_int)))
  (dss_cons (ds_ite (dt_cmp od_eqS eqS_n (de_op2 od_mod modI_n (de_ix (dq_lst (de_var 2)) de_int) de_int) de_int (nomark _))
  (dss_one (ds_set 3 sc_law_drawn.nd (he := (de_call B.g_law_cell (ok_law_cell T B) (da_cons (de_var 0) (da_cons (de_var 1) da_nil))))))
  dss_nil)
  (dss_one (ds_ret (de_call B.g_law_rat (ok_law_rat T B) (da_cons (de_var 3) (da_cons (de_op2 od_add addI_n (de_op2 od_mod modI_n (de_ix (dq_lst (de_var 2)) de_int) de_int) de_int) da_nil))))))))
def f_law_drawn : List D → Res D := runD 4 2 b_law_drawn
theorem ok_law_drawn {Γ : Gam} (T : Top Γ) (B : Base Γ) : Cal Γ 43 (He.ga Γ.K "_law_drawn") f_law_drawn := cal_mk B.fd_law_drawn sc_law_drawn T (bd_law_drawn T B) (fun _ _ _ _ _ _ us hl => match us, hl with | [_, _], _ => rfl)
/-! Ratio.__init__ -/
theorem sc_Ratio_init : FnScope ["self", "n", "d", "common"] ["self", "n", "d"] (defScope st_Ratio_init) := ⟨rfl, rfl, rfl, by decide +kernel, rfl, by decide +kernel, by decide +kernel⟩
def b_Ratio_init : Env → Out :=
 (S.seq (S.ite (T.tst (E.op2 eqS (E.var 2) (E.c (.int 0))))
  (S.raise 21)
  S.skip)
  (S.seq (S.set 3 (E.ite (T.tst (E.op2 gtI (E.var 2) (E.c (.int 0)))) (E.op2 gcdI (E.var 1) (E.var 2)) (E.op1 negI (E.op2 gcdI (E.var 1) (E.var 2)))))
  (S.seq (S.fld 0 0 0 (E.op2 fdivI (E.var 1) (E.var 3)))
  (S.fld 0 0 1 (E.op2 fdivI (E.var 2) (E.var 3))))))
theorem bd_Ratio_init {Γ : Gam} (T : Top Γ) (B : Base Γ) : Body Γ (40) ["self", "n", "d", "common"] "Ratio.__init__" (defScope st_Ratio_init) (He.ma Γ.K (He.ga Γ.K "Ratio") "__init__") (defBody st_Ratio_init) b_Ratio_init := fun _ _ _ _ _ _ =>
 (dss_cons (ds_ite (dt_cmp od_eqS eqS_n (de_var 2) de_int (nomark _))
  (dss_one (ds_raise B.x_ZeroDivisor))
  dss_nil)
  (dss_cons (ds_set 3 sc_Ratio_init.nd (he := (de_ite (dt_cmp od_gt gtI_n (de_var 2) de_int (nomark _)) (de_gcd (de_var 1) (de_var 2) B.gcd) (de_neg (de_gcd (de_var 1) (de_var 2) B.gcd)))))
  (dss_cons (ds_fld 0 B.k_Ratio (fld_Ratio_n B) (de_op2 od_fdiv fdivI_n (de_var 1) (de_var 3)))
  (dss_one (ds_fld 0 B.k_Ratio (fld_Ratio_d B) (de_op2 od_fdiv fdivI_n (de_var 2) (de_var 3)))))))
def f_Ratio_init_1 : List D → Res (List D) := fun as => runI 0 4 2 b_Ratio_init (as ++ [(.int 1)])
theorem calI_Ratio_1 {Γ : Gam} (T : Top Γ) (B : Base Γ) : CalI Γ 41 0 f_Ratio_init_1 := calI_mkJ (m := 2) (jd := 0) (N := ["n", "d", "common"]) B.fd_Ratio_init B.mk_Ratio sc_Ratio_init T (bd_Ratio_init T B) (fun _ _ _ _ _ _ _ us its hl hi => match us, its, hl, hi with | [_, _], [_], _, _ => ⟨_, rfl, rfl⟩) (List.cons_ne_nil _ _) rfl (fun _ _ => (.cons (by rw [Rp]) .nil))
def f_Ratio_init_2 : List D → Res (List D) := fun as => runI 0 4 2 b_Ratio_init (as ++ [])
theorem calI_Ratio_2 {Γ : Gam} (T : Top Γ) (B : Base Γ) : CalI Γ 41 0 f_Ratio_init_2 := calI_mkJ (m := 3) (jd := 1) (N := ["n", "d", "common"]) B.fd_Ratio_init B.mk_Ratio sc_Ratio_init T (bd_Ratio_init T B) (fun _ _ _ _ _ _ _ us its hl hi => match us, its, hl, hi with | [_, _, _], [_], _, _ => ⟨_, rfl, rfl⟩) (List.cons_ne_nil _ _) rfl (fun _ _ => .nil)
/-! _law_add -/
theorem sc_law_add : FnScope ["_law_a", "_law_b"] ["_law_a", "_law_b"] (defScope st_law_add) := ⟨rfl, rfl, rfl, by decide +kernel, rfl, by decide +kernel, by decide +kernel⟩
def b_law_add : Env → Out :=
 (S.ret (E.app f_law_rat (E.cons (E.op2 addI (E.op2 mulI (E.ix (Z.tup (E.var 0)) (E.c (.int 0))) (E.ix (Z.tup (E.var 1)) (E.c (.int 1)))) (E.op2 mulI (E.ix (Z.tup (E.var 1)) (E.c (.int 0))) (E.ix (Z.tup (E.var 0)) (E.c (.int 1))))) (E.cons (E.op2 mulI (E.ix (Z.tup (E.var 0)) (E.c (.int 1))) (E.ix (Z.tup (E.var 1)) (E.c (.int 1)))) E.nil))))
theorem bd_law_add {Γ : Gam} (T : Top Γ) (B : Base Γ) : Body Γ (42) ["_law_a", "_law_b"] "_law_add" (defScope st_law_add) (He.ga Γ.K "_law_add") (defBody st_law_add) b_law_add := fun _ _ _ _ _ _ =>
 (dss_one (ds_ret (de_call B.g_law_rat (ok_law_rat T B) (da_cons (de_op2 od_add addI_n (de_op2 od_mul mulI_n (de_ix (dq_tup (de_var 0)) de_int) (de_ix (dq_tup (de_var 1)) de_int)) (de_op2 od_mul mulI_n (de_ix (dq_tup (de_var 1)) de_int) (de_ix (dq_tup (de_var 0)) de_int))) (da_cons (de_op2 od_mul mulI_n (de_ix (dq_tup (de_var 0)) de_int) (de_ix (dq_tup (de_var 1)) de_int)) da_nil)))))
def f_law_add : List D → Res D := runD 2 2 b_law_add
theorem ok_law_add {Γ : Gam} (T : Top Γ) (B : Base Γ) : Cal Γ 43 (He.ga Γ.K "_law_add") f_law_add := cal_mk B.fd_law_add sc_law_add T (bd_law_add T B) (fun _ _ _ _ _ _ us hl => match us, hl with | [_, _], _ => rfl)
/-! _law_mul -/
theorem sc_law_mul : FnScope ["_law_a", "_law_b"] ["_law_a", "_law_b"] (defScope st_law_mul) := ⟨rfl, rfl, rfl, by decide +kernel, rfl, by decide +kernel, by decide +kernel⟩
def b_law_mul : Env → Out :=
 (S.ret (E.app f_law_rat (E.cons (E.op2 mulI (E.ix (Z.tup (E.var 0)) (E.c (.int 0))) (E.ix (Z.tup (E.var 1)) (E.c (.int 0)))) (E.cons (E.op2 mulI (E.ix (Z.tup (E.var 0)) (E.c (.int 1))) (E.ix (Z.tup (E.var 1)) (E.c (.int 1)))) E.nil))))
theorem bd_law_mul {Γ : Gam} (T : Top Γ) (B : Base Γ) : Body Γ (42) ["_law_a", "_law_b"] "_law_mul" (defScope st_law_mul) (He.ga Γ.K "_law_mul") (defBody st_law_mul) b_law_mul := fun _ _ _ _ _ _ =>
 (dss_one (ds_ret (de_call B.g_law_rat (ok_law_rat T B) (da_cons (de_op2 od_mul mulI_n (de_ix (dq_tup (de_var 0)) de_int) (de_ix (dq_tup (de_var 1)) de_int)) (da_cons (de_op2 od_mul mulI_n (de_ix (dq_tup (de_var 0)) de_int) (de_ix (dq_tup (de_var 1)) de_int)) da_nil)))))
def f_law_mul : List D → Res D := runD 2 2 b_law_mul
theorem ok_law_mul {Γ : Gam} (T : Top Γ) (B : Base Γ) : Cal Γ 43 (He.ga Γ.K "_law_mul") f_law_mul := cal_mk B.fd_law_mul sc_law_mul T (bd_law_mul T B) (fun _ _ _ _ _ _ us hl => match us, hl with | [_, _], _ => rfl)
/-! Ratio.__add__ -/
theorem sc_Ratio_add : FnScope ["self", "other"] ["self", "other"] (defScope st_Ratio_add) := ⟨rfl, rfl, rfl, by decide +kernel, rfl, by decide +kernel, by decide +kernel⟩
def b_Ratio_add : Env → Out :=
 (S.ret (E.app (objR 0 f_Ratio_init_2) (E.cons (E.op2 addI (E.op2 mulI (E.fld 0 0 (E.var 0)) (E.fld 0 1 (E.var 1))) (E.op2 mulI (E.fld 0 0 (E.var 1)) (E.fld 0 1 (E.var 0)))) (E.cons (E.op2 mulI (E.fld 0 1 (E.var 0)) (E.fld 0 1 (E.var 1))) E.nil))))
theorem no_Ratio_add {Γ : Gam} (B : Base Γ) : ("__add__" : Str) ∉ Γ.fld 0 := by rw [B.fl_Ratio]; decide
theorem bd_Ratio_add {Γ : Gam} (T : Top Γ) (B : Base Γ) : Body Γ (42) ["self", "other"] "Ratio.__add__" (defScope st_Ratio_add) (He.ma Γ.K (He.ga Γ.K "Ratio") "__add__") (defBody st_Ratio_add) b_Ratio_add := fun _ _ _ _ _ _ =>
 (dss_one (ds_ret (de_make B.k_Ratio (calI_Ratio_2 T B) (da_cons (de_op2 od_add addI_n (de_op2 od_mul mulI_n (de_fld B.k_Ratio (fld_Ratio_n B) (de_var 0)) (de_fld B.k_Ratio (fld_Ratio_d B) (de_var 1))) (de_op2 od_mul mulI_n (de_fld B.k_Ratio (fld_Ratio_n B) (de_var 1)) (de_fld B.k_Ratio (fld_Ratio_d B) (de_var 0)))) (da_cons (de_op2 od_mul mulI_n (de_fld B.k_Ratio (fld_Ratio_d B) (de_var 0)) (de_fld B.k_Ratio (fld_Ratio_d B) (de_var 1))) da_nil)))))
def f_Ratio_add : List D → Res D := runD 2 2 b_Ratio_add
theorem ok_Ratio_add {Γ : Gam} (T : Top Γ) (B : Base Γ) : Cal Γ 43 (He.ma Γ.K (He.ga Γ.K "Ratio") "__add__") f_Ratio_add := cal_mk B.fd_Ratio_add sc_Ratio_add T (bd_Ratio_add T B) (fun _ _ _ _ _ _ us hl => match us, hl with | [_, _], _ => rfl)
theorem calM_Ratio_add {Γ : Gam} (T : Top Γ) (B : Base Γ) : CalM Γ 43 0 "__add__" f_Ratio_add := ⟨⟨_, B.mt_Ratio_add, ok_Ratio_add T B⟩, no_Ratio_add B⟩
/-! Ratio.__sub__ -/
theorem sc_Ratio_sub : FnScope ["self", "other"] ["self", "other"] (defScope st_Ratio_sub) := ⟨rfl, rfl, rfl, by decide +kernel, rfl, by decide +kernel, by decide +kernel⟩
def b_Ratio_sub : Env → Out :=
 (S.ret (E.app (objR 0 f_Ratio_init_2) (E.cons (E.op2 subI (E.op2 mulI (E.fld 0 0 (E.var 0)) (E.fld 0 1 (E.var 1))) (E.op2 mulI (E.fld 0 0 (E.var 1)) (E.fld 0 1 (E.var 0)))) (E.cons (E.op2 mulI (E.fld 0 1 (E.var 0)) (E.fld 0 1 (E.var 1))) E.nil))))
theorem no_Ratio_sub {Γ : Gam} (B : Base Γ) : ("__sub__" : Str) ∉ Γ.fld 0 := by rw [B.fl_Ratio]; decide
theorem bd_Ratio_sub {Γ : Gam} (T : Top Γ) (B : Base Γ) : Body Γ (42) ["self", "other"] "Ratio.__sub__" (defScope st_Ratio_sub) (He.ma Γ.K (He.ga Γ.K "Ratio") "__sub__") (defBody st_Ratio_sub) b_Ratio_sub := fun _ _ _ _ _ _ =>
 (dss_one (ds_ret (de_make B.k_Ratio (calI_Ratio_2 T B) (da_cons (de_op2 od_sub subI_n (de_op2 od_mul mulI_n (de_fld B.k_Ratio (fld_Ratio_n B) (de_var 0)) (de_fld B.k_Ratio (fld_Ratio_d B) (de_var 1))) (de_op2 od_mul mulI_n (de_fld B.k_Ratio (fld_Ratio_n B) (de_var 1)) (de_fld B.k_Ratio (fld_Ratio_d B) (de_var 0)))) (da_cons (de_op2 od_mul mulI_n (de_fld B.k_Ratio (fld_Ratio_d B) (de_var 0)) (de_fld B.k_Ratio (fld_Ratio_d B) (de_var 1))) da_nil)))))
def f_Ratio_sub : List D → Res D := runD 2 2 b_Ratio_sub
theorem ok_Ratio_sub {Γ : Gam} (T : Top Γ) (B : Base Γ) : Cal Γ 43 (He.ma Γ.K (He.ga Γ.K "Ratio") "__sub__") f_Ratio_sub := cal_mk B.fd_Ratio_sub sc_Ratio_sub T (bd_Ratio_sub T B) (fun _ _ _ _ _ _ us hl => match us, hl with | [_, _], _ => rfl)
theorem calM_Ratio_sub {Γ : Gam} (T : Top Γ) (B : Base Γ) : CalM Γ 43 0 "__sub__" f_Ratio_sub := ⟨⟨_, B.mt_Ratio_sub, ok_Ratio_sub T B⟩, no_Ratio_sub B⟩
/-! Ratio.__mul__ -/
theorem sc_Ratio_mul : FnScope ["self", "other"] ["self", "other"] (defScope st_Ratio_mul) := ⟨rfl, rfl, rfl, by decide +kernel, rfl, by decide +kernel, by decide +kernel⟩
def b_Ratio_mul : Env → Out :=
 (S.ret (E.app (objR 0 f_Ratio_init_2) (E.cons (E.op2 mulI (E.fld 0 0 (E.var 0)) (E.fld 0 0 (E.var 1))) (E.cons (E.op2 mulI (E.fld 0 1 (E.var 0)) (E.fld 0 1 (E.var 1))) E.nil))))
theorem no_Ratio_mul {Γ : Gam} (B : Base Γ) : ("__mul__" : Str) ∉ Γ.fld 0 := by rw [B.fl_Ratio]; decide
theorem bd_Ratio_mul {Γ : Gam} (T : Top Γ) (B : Base Γ) : Body Γ (42) ["self", "other"] "Ratio.__mul__" (defScope st_Ratio_mul) (He.ma Γ.K (He.ga Γ.K "Ratio") "__mul__") (defBody st_Ratio_mul) b_Ratio_mul := fun _ _ _ _ _ _ =>
 (dss_one (ds_ret (de_make B.k_Ratio (calI_Ratio_2 T B) (da_cons (de_op2 od_mul mulI_n (de_fld B.k_Ratio (fld_Ratio_n B) (de_var 0)) (de_fld B.k_Ratio (fld_Ratio_n B) (de_var 1))) (da_cons (de_op2 od_mul mulI_n (de_fld B.k_Ratio (fld_Ratio_d B) (de_var 0)) (de_fld B.k_Ratio (fld_Ratio_d B) (de_var 1))) da_nil)))))
def f_Ratio_mul : List D → Res D := runD 2 2 b_Ratio_mul
theorem ok_Ratio_mul {Γ : Gam} (T : Top Γ) (B : Base Γ) : Cal Γ 43 (He.ma Γ.K (He.ga Γ.K "Ratio") "__mul__") f_Ratio_mul := cal_mk B.fd_Ratio_mul sc_Ratio_mul T (bd_Ratio_mul T B) (fun _ _ _ _ _ _ us hl => match us, hl with | [_, _], _ => rfl)
theorem calM_Ratio_mul {Γ : Gam} (T : Top Γ) (B : Base Γ) : CalM Γ 43 0 "__mul__" f_Ratio_mul := ⟨⟨_, B.mt_Ratio_mul, ok_Ratio_mul T B⟩, no_Ratio_mul B⟩
/-! Ratio.__neg__ -/
theorem sc_Ratio_neg : FnScope ["self"] ["self"] (defScope st_Ratio_neg) := ⟨rfl, rfl, rfl, by decide +kernel, rfl, by decide +kernel, by decide +kernel⟩
def b_Ratio_neg : Env → Out :=
 (S.ret (E.app (objR 0 f_Ratio_init_2) (E.cons (E.op1 negI (E.fld 0 0 (E.var 0))) (E.cons (E.fld 0 1 (E.var 0)) E.nil))))
theorem no_Ratio_neg {Γ : Gam} (B : Base Γ) : ("__neg__" : Str) ∉ Γ.fld 0 := by rw [B.fl_Ratio]; decide
theorem bd_Ratio_neg {Γ : Gam} (T : Top Γ) (B : Base Γ) : Body Γ (42) ["self"] "Ratio.__neg__" (defScope st_Ratio_neg) (He.ma Γ.K (He.ga Γ.K "Ratio") "__neg__") (defBody st_Ratio_neg) b_Ratio_neg := fun _ _ _ _ _ _ =>
 (dss_one (ds_ret (de_make B.k_Ratio (calI_Ratio_2 T B) (da_cons (de_neg (de_fld B.k_Ratio (fld_Ratio_n B) (de_var 0))) (da_cons (de_fld B.k_Ratio (fld_Ratio_d B) (de_var 0)) da_nil)))))
def f_Ratio_neg : List D → Res D := runD 1 1 b_Ratio_neg
theorem ok_Ratio_neg {Γ : Gam} (T : Top Γ) (B : Base Γ) : Cal Γ 43 (He.ma Γ.K (He.ga Γ.K "Ratio") "__neg__") f_Ratio_neg := cal_mk B.fd_Ratio_neg sc_Ratio_neg T (bd_Ratio_neg T B) (fun _ _ _ _ _ _ us hl => match us, hl with | [_], _ => rfl)
theorem calM_Ratio_neg {Γ : Gam} (T : Top Γ) (B : Base Γ) : CalM Γ 43 0 "__neg__" f_Ratio_neg := ⟨⟨_, B.mt_Ratio_neg, ok_Ratio_neg T B⟩, no_Ratio_neg B⟩
/-! Ratio.inverse -/
theorem sc_Ratio_inverse : FnScope ["self"] ["self"] (defScope st_Ratio_inverse) := ⟨rfl, rfl, rfl, by decide +kernel, rfl, by decide +kernel, by decide +kernel⟩
def b_Ratio_inverse : Env → Out :=
 (S.ret (E.app (objR 0 f_Ratio_init_2) (E.cons (E.fld 0 1 (E.var 0)) (E.cons (E.fld 0 0 (E.var 0)) E.nil))))
theorem no_Ratio_inverse {Γ : Gam} (B : Base Γ) : ("inverse" : Str) ∉ Γ.fld 0 := by rw [B.fl_Ratio]; decide
theorem bd_Ratio_inverse {Γ : Gam} (T : Top Γ) (B : Base Γ) : Body Γ (42) ["self"] "Ratio.inverse" (defScope st_Ratio_inverse) (He.ma Γ.K (He.ga Γ.K "Ratio") "inverse") (defBody st_Ratio_inverse) b_Ratio_inverse := fun _ _ _ _ _ _ =>
 (dss_one (ds_ret (de_make B.k_Ratio (calI_Ratio_2 T B) (da_cons (de_fld B.k_Ratio (fld_Ratio_d B) (de_var 0)) (da_cons (de_fld B.k_Ratio (fld_Ratio_n B) (de_var 0)) da_nil)))))
def f_Ratio_inverse : List D → Res D := runD 1 1 b_Ratio_inverse
theorem ok_Ratio_inverse {Γ : Gam} (T : Top Γ) (B : Base Γ) : Cal Γ 43 (He.ma Γ.K (He.ga Γ.K "Ratio") "inverse") f_Ratio_inverse := cal_mk B.fd_Ratio_inverse sc_Ratio_inverse T (bd_Ratio_inverse T B) (fun _ _ _ _ _ _ us hl => match us, hl with | [_], _ => rfl)
theorem calM_Ratio_inverse {Γ : Gam} (T : Top Γ) (B : Base Γ) : CalM Γ 43 0 "inverse" f_Ratio_inverse := ⟨⟨_, B.mt_Ratio_inverse, ok_Ratio_inverse T B⟩, no_Ratio_inverse B⟩
/-! Ratio.over -/
theorem sc_Ratio_over : FnScope ["self", "other"] ["self", "other"] (defScope st_Ratio_over) := ⟨rfl, rfl, rfl, by decide +kernel, rfl, by decide +kernel, by decide +kernel⟩
def b_Ratio_over : Env → Out :=
 (S.ret (E.app (objR 0 f_Ratio_init_2) (E.cons (E.op2 mulI (E.fld 0 0 (E.var 0)) (E.fld 0 1 (E.var 1))) (E.cons (E.op2 mulI (E.fld 0 1 (E.var 0)) (E.fld 0 0 (E.var 1))) E.nil))))
theorem no_Ratio_over {Γ : Gam} (B : Base Γ) : ("over" : Str) ∉ Γ.fld 0 := by rw [B.fl_Ratio]; decide
theorem bd_Ratio_over {Γ : Gam} (T : Top Γ) (B : Base Γ) : Body Γ (42) ["self", "other"] "Ratio.over" (defScope st_Ratio_over) (He.ma Γ.K (He.ga Γ.K "Ratio") "over") (defBody st_Ratio_over) b_Ratio_over := fun _ _ _ _ _ _ =>
 (dss_one (ds_ret (de_make B.k_Ratio (calI_Ratio_2 T B) (da_cons (de_op2 od_mul mulI_n (de_fld B.k_Ratio (fld_Ratio_n B) (de_var 0)) (de_fld B.k_Ratio (fld_Ratio_d B) (de_var 1))) (da_cons (de_op2 od_mul mulI_n (de_fld B.k_Ratio (fld_Ratio_d B) (de_var 0)) (de_fld B.k_Ratio (fld_Ratio_n B) (de_var 1))) da_nil)))))
def f_Ratio_over : List D → Res D := runD 2 2 b_Ratio_over
theorem ok_Ratio_over {Γ : Gam} (T : Top Γ) (B : Base Γ) : Cal Γ 43 (He.ma Γ.K (He.ga Γ.K "Ratio") "over") f_Ratio_over := cal_mk B.fd_Ratio_over sc_Ratio_over T (bd_Ratio_over T B) (fun _ _ _ _ _ _ us hl => match us, hl with | [_, _], _ => rfl)
theorem calM_Ratio_over {Γ : Gam} (T : Top Γ) (B : Base Γ) : CalM Γ 43 0 "over" f_Ratio_over := ⟨⟨_, B.mt_Ratio_over, ok_Ratio_over T B⟩, no_Ratio_over B⟩
/-! _law_power -/
theorem sc_law_power : FnScope ["_law_a", "_law_k", "_law_out", "_law_step"] ["_law_a", "_law_k"] (defScope st_law_power) := ⟨rfl, rfl, rfl, by decide +kernel, rfl, by decide +kernel, by decide +kernel⟩
def b_law_power : Env → Out :=
 (S.seq (S.set 2 (E.tupl (E.cons (E.c (.int 1)) (E.cons (E.c (.int 1)) E.nil))))
  (S.seq (S.forE (E.rng1 (E.op1 absI (E.var 1))) (S.tgt 3)
  (S.set 2 (E.app f_law_mul (E.cons (E.var 2) (E.cons (E.var 0) E.nil)))))
  (S.seq (S.ite (T.tst (E.op2 ltI (E.var 1) (E.c (.int 0))))
  (S.ret (E.app f_law_rat (E.cons (E.ix (Z.tup (E.var 2)) (E.c (.int 1))) (E.cons (E.ix (Z.tup (E.var 2)) (E.c (.int 0))) E.nil))))
  S.skip)
  (S.ret (E.var 2)))))
theorem bd_law_power {Γ : Gam} (T : Top Γ) (B : Base Γ) : Body Γ (43) ["_law_a", "_law_k", "_law_out", "_law_step"] "_law_power" (defScope st_law_power) (He.ga Γ.K "_law_power") (defBody st_law_power) b_law_power := fun _ _ _ _ _ _ =>
 (dss_cons (ds_set 2 sc_law_power.nd (he := (de_tupl (da_cons de_int (da_cons de_int da_nil)))))
  (dss_cons (ds_for (di_rng1 (de_abs (de_var 1) B.n_abs) B.n_range) (dg_name 3 sc_law_power.nd)
  (dss_one (ds_set 2 sc_law_power.nd (he := (de_call B.g_law_mul (ok_law_mul T B) (da_cons (de_var 2) (da_cons (de_var 0) da_nil)))))))
  (dss_cons (ds_ite (dt_cmp od_lt ltI_n (de_var 1) de_int (nomark _))
  (dss_one (ds_ret (de_call B.g_law_rat (ok_law_rat T B) (da_cons (de_ix (dq_tup (de_var 2)) de_int) (da_cons (de_ix (dq_tup (de_var 2)) de_int) da_nil)))))
  dss_nil)
  (dss_one (ds_ret (de_var 2))))))
def f_law_power : List D → Res D := runD 4 2 b_law_power
theorem ok_law_power {Γ : Gam} (T : Top Γ) (B : Base Γ) : Cal Γ 44 (He.ga Γ.K "_law_power") f_law_power := cal_mk B.fd_law_power sc_law_power T (bd_law_power T B) (fun _ _ _ _ _ _ us hl => match us, hl with | [_, _], _ => rfl)
/-! Ratio.power -/
theorem sc_Ratio_power : FnScope ["self", "k", "n", "d", "_"] ["self", "k"] (defScope st_Ratio_power) := ⟨rfl, rfl, rfl, by decide +kernel, rfl, by decide +kernel, by decide +kernel⟩
def b_Ratio_power (f : List D → Res D) : Env → Out :=
 (S.seq (S.ite (T.tst (E.op2 ltI (E.var 1) (E.c (.int 0))))
  (S.ret (E.meth 0 f (E.meth 0 f_Ratio_inverse (E.var 0) E.nil) (E.cons (E.op1 negI (E.var 1)) E.nil)))
  S.skip)
  (S.seq (S.asg (S.gtup 2 (S.gcons (S.tgt 2) (S.gcons (S.tgt 3) S.gnil))) (E.tupl (E.cons (E.c (.int 1)) (E.cons (E.c (.int 1)) E.nil))))
  (S.seq (S.forE (E.rng1 (E.var 1)) (S.tgt 4)
  (S.seq (S.set 2 (E.op2 mulI (E.var 2) (E.fld 0 0 (E.var 0))))
  (S.set 3 (E.op2 mulI (E.var 3) (E.fld 0 1 (E.var 0))))))
  (S.ret (E.app (objR 0 f_Ratio_init_2) (E.cons (E.var 2) (E.cons (E.var 3) E.nil)))))))
theorem no_Ratio_power {Γ : Gam} (B : Base Γ) : ("power" : Str) ∉ Γ.fld 0 := by rw [B.fl_Ratio]; decide
theorem bd_Ratio_power {Γ : Gam} (T : Top Γ) (B : Base Γ) {n : Nat} {f : List D → Res D} (h : Cal Γ (n + 44) (He.ma Γ.K (He.ga Γ.K "Ratio") "power") f) : Body Γ (n + 44) ["self", "k", "n", "d", "_"] "Ratio.power" (defScope st_Ratio_power) (He.ma Γ.K (He.ga Γ.K "Ratio") "power") (defBody st_Ratio_power) (b_Ratio_power f) := fun _ _ _ _ _ _ =>
 (dss_cons (ds_ite (dt_cmp od_lt ltI_n (de_var 1) de_int (nomark _))
  (dss_one (ds_ret (de_meth B.k_Ratio ⟨⟨_, B.mt_Ratio_power, h⟩, no_Ratio_power B⟩ (de_meth0 B.k_Ratio (calM_Ratio_inverse T B) (de_var 0)) (da_cons (de_neg (de_var 1)) da_nil))))
  dss_nil)
  (dss_cons (ds_asg (dg_tup (dgs_cons (dg_name 2 sc_Ratio_power.nd) (dgs_cons (dg_name 3 sc_Ratio_power.nd) dgs_nil))) (de_tupl (da_cons de_int (da_cons de_int da_nil))))
  (dss_cons (ds_for (di_rng1 (de_var 1) B.n_range) (dg_name 4 sc_Ratio_power.nd)
  (dss_cons (ds_set 2 sc_Ratio_power.nd (he := (de_op2 od_mul mulI_n (de_var 2) (de_fld B.k_Ratio (fld_Ratio_n B) (de_var 0)))))
  (dss_one (ds_set 3 sc_Ratio_power.nd (he := (de_op2 od_mul mulI_n (de_var 3) (de_fld B.k_Ratio (fld_Ratio_d B) (de_var 0))))))))
  (dss_one (ds_ret (de_make B.k_Ratio (calI_Ratio_2 T B) (da_cons (de_var 2) (da_cons (de_var 3) da_nil))))))))
def r_Ratio_power : Nat → List D → Res D
  | 0 => runD 5 2 fun _ => .stuck
  | n + 1 => runD 5 2 (b_Ratio_power (r_Ratio_power n))
theorem okr_Ratio_power {Γ : Gam} (T : Top Γ) (B : Base Γ) : ∀ n, Cal Γ (n + 44) (He.ma Γ.K (He.ga Γ.K "Ratio") "power") (r_Ratio_power n)
  | 0 => cal_mk (k := 43) B.fd_Ratio_power sc_Ratio_power T body_stuck (fun _ _ _ _ _ _ us hl => match us, hl with | [_, _], _ => rfl)
  | n + 1 => cal_mk (k := n + 44) B.fd_Ratio_power sc_Ratio_power T (bd_Ratio_power T B (okr_Ratio_power T B n)) (fun _ _ _ _ _ _ us hl => match us, hl with | [_, _], _ => rfl)
def f_Ratio_power : List D → Res D := r_Ratio_power 2
theorem ok_Ratio_power {Γ : Gam} (T : Top Γ) (B : Base Γ) : Cal Γ 46 (He.ma Γ.K (He.ga Γ.K "Ratio") "power") f_Ratio_power := okr_Ratio_power T B 2
theorem calM_Ratio_power {Γ : Gam} (T : Top Γ) (B : Base Γ) : CalM Γ 46 0 "power" f_Ratio_power := ⟨⟨_, B.mt_Ratio_power, ok_Ratio_power T B⟩, no_Ratio_power B⟩
/-! total -/
theorem sc_total : FnScope ["numbers", "out", "number"] ["numbers"] (defScope st_total) := ⟨rfl, rfl, rfl, by decide +kernel, rfl, by decide +kernel, by decide +kernel⟩
def b_total : Env → Out :=
 (S.seq (S.set 1 (E.app (objR 0 f_Ratio_init_1) (E.cons (E.c (.int 0)) E.nil)))
  (S.seq (S.forE (Z.seq (E.var 0)) (S.tgt 2)
  (S.set 1 (E.own2 0 f_Ratio_add (E.var 1) (E.var 2))))
  (S.ret (E.var 1))))
theorem bd_total {Γ : Gam} (T : Top Γ) (B : Base Γ) : Body Γ (43) ["numbers", "out", "number"] "total" (defScope st_total) (He.ga Γ.K "total") (defBody st_total) b_total := fun _ _ _ _ _ _ =>
 (dss_cons (ds_set 1 sc_total.nd (he := (de_make B.k_Ratio (calI_Ratio_1 T B) (da_cons de_int da_nil))))
  (dss_cons (ds_for (di_seq (de_var 0)) (dg_name 2 sc_total.nd)
  (dss_one (ds_set 1 sc_total.nd (he := (de_own2 B.k_Ratio (calM_Ratio_add T B) rfl (de_var 1) (de_var 2))))))
  (dss_one (ds_ret (de_var 1)))))
def f_total : List D → Res D := runD 3 1 b_total
theorem ok_total {Γ : Gam} (T : Top Γ) (B : Base Γ) : Cal Γ 44 (He.ga Γ.K "total") f_total := cal_mk B.fd_total sc_total T (bd_total T B) (fun _ _ _ _ _ _ us hl => match us, hl with | [_], _ => rfl)
/-! _law_is_integer -/
theorem sc_law_is_integer : FnScope ["_law_value"] ["_law_value"] (defScope st_law_is_integer) := ⟨rfl, rfl, rfl, by decide +kernel, rfl, by decide +kernel, by decide +kernel⟩
def b_law_is_integer : Env → Out :=
 (S.ret (E.and (E.op1 (isiR isi_int) (E.var 0)) (E.not (E.op1 (isiR isi_bool) (E.var 0)))))
theorem bd_law_is_integer {Γ : Gam} (T : Top Γ) (B : Base Γ) : Body Γ (40) ["_law_value"] "_law_is_integer" (defScope st_law_is_integer) (He.ga Γ.K "_law_is_integer") (defBody st_law_is_integer) b_law_is_integer := fun _ _ _ _ _ _ =>
 (dss_one (ds_ret (de_and (de_isiT B.isi_int (de_var 0) B.n_isinstance B.n_int (by decide +kernel)) (de_one (de_not (de_isiT B.isi_bool (de_var 0) B.n_isinstance B.n_bool (by decide +kernel)))))))
def f_law_is_integer : List D → Res D := runD 1 1 b_law_is_integer
theorem ok_law_is_integer {Γ : Gam} (T : Top Γ) (B : Base Γ) : Cal Γ 41 (He.ga Γ.K "_law_is_integer") f_law_is_integer := cal_mk B.fd_law_is_integer sc_law_is_integer T (bd_law_is_integer T B) (fun _ _ _ _ _ _ us hl => match us, hl with | [_], _ => rfl)
/-! _law_pair -/
theorem sc_law_pair : FnScope ["_law_value"] ["_law_value"] (defScope st_law_pair) := ⟨rfl, rfl, rfl, by decide +kernel, rfl, by decide +kernel, by decide +kernel⟩
def b_law_pair : Env → Out :=
 (S.seq (S.ite (T.or (T.not (T.tst (E.op1 (isiR isi_Ratio) (E.var 0)))) (T.or (T.not (T.tst (E.app f_law_is_integer (E.cons (E.fld 0 0 (E.var 0)) E.nil)))) (T.not (T.tst (E.app f_law_is_integer (E.cons (E.fld 0 1 (E.var 0)) E.nil))))))
  (S.ret (E.c .non))
  S.skip)
  (S.seq (S.ite (T.or (T.tst (E.op2 ltI (E.fld 0 1 (E.var 0)) (E.c (.int 1)))) (T.tst (E.op2 neS (E.app f_law_gcd (E.cons (E.fld 0 0 (E.var 0)) (E.cons (E.fld 0 1 (E.var 0)) E.nil))) (E.c (.int 1)))))
  (S.ret (E.c .non))
  S.skip)
  (S.ret (E.tupl (E.cons (E.fld 0 0 (E.var 0)) (E.cons (E.fld 0 1 (E.var 0)) E.nil))))))
theorem bd_law_pair {Γ : Gam} (T : Top Γ) (B : Base Γ) : Body Γ (41) ["_law_value"] "_law_pair" (defScope st_law_pair) (He.ga Γ.K "_law_pair") (defBody st_law_pair) b_law_pair := fun _ _ _ _ _ _ =>
 (dss_cons (ds_ite (dt_bool (dw_or (dt_not (dt_val (de_isiC B.isi_Ratio B.k_Ratio (de_var 0) B.n_isinstance))) (dw_or (dt_not (dt_val (de_call B.g_law_is_integer (ok_law_is_integer T B) (da_cons (de_fld B.k_Ratio (fld_Ratio_n B) (de_var 0)) da_nil)))) (dw_or1 (dt_not (dt_val (de_call B.g_law_is_integer (ok_law_is_integer T B) (da_cons (de_fld B.k_Ratio (fld_Ratio_d B) (de_var 0)) da_nil))))))))
  (dss_one (ds_ret de_non))
  dss_nil)
  (dss_cons (ds_ite (dt_bool (dw_or (dt_cmp od_lt ltI_n (de_fld B.k_Ratio (fld_Ratio_d B) (de_var 0)) de_int (nomark _)) (dw_or1 (dt_cmp od_neS neS_n (de_call B.g_law_gcd (ok_law_gcd T B) (da_cons (de_fld B.k_Ratio (fld_Ratio_n B) (de_var 0)) (da_cons (de_fld B.k_Ratio (fld_Ratio_d B) (de_var 0)) da_nil))) de_int (nomark _)))))
  (dss_one (ds_ret de_non))
  dss_nil)
  (dss_one (ds_ret (de_tupl (da_cons (de_fld B.k_Ratio (fld_Ratio_n B) (de_var 0)) (da_cons (de_fld B.k_Ratio (fld_Ratio_d B) (de_var 0)) da_nil)))))))
def f_law_pair : List D → Res D := runD 1 1 b_law_pair
theorem ok_law_pair {Γ : Gam} (T : Top Γ) (B : Base Γ) : Cal Γ 42 (He.ga Γ.K "_law_pair") f_law_pair := cal_mk B.fd_law_pair sc_law_pair T (bd_law_pair T B) (fun _ _ _ _ _ _ us hl => match us, hl with | [_], _ => rfl)
/-! Ratio.compare -/
theorem sc_Ratio_compare : FnScope ["self", "other", "gap"] ["self", "other"] (defScope st_Ratio_compare) := ⟨rfl, rfl, rfl, by decide +kernel, rfl, by decide +kernel, by decide +kernel⟩
def b_Ratio_compare : Env → Out :=
 (S.seq (S.set 2 (E.op2 subI (E.op2 mulI (E.fld 0 0 (E.var 0)) (E.fld 0 1 (E.var 1))) (E.op2 mulI (E.fld 0 0 (E.var 1)) (E.fld 0 1 (E.var 0)))))
  (S.ret (E.op2 subI (E.op1 intC (E.op2 gtI (E.var 2) (E.c (.int 0)))) (E.op1 intC (E.op2 ltI (E.var 2) (E.c (.int 0)))))))
theorem no_Ratio_compare {Γ : Gam} (B : Base Γ) : ("compare" : Str) ∉ Γ.fld 0 := by rw [B.fl_Ratio]; decide
theorem bd_Ratio_compare {Γ : Gam} (T : Top Γ) (B : Base Γ) : Body Γ (40) ["self", "other", "gap"] "Ratio.compare" (defScope st_Ratio_compare) (He.ma Γ.K (He.ga Γ.K "Ratio") "compare") (defBody st_Ratio_compare) b_Ratio_compare := fun _ _ _ _ _ _ =>
 (dss_cons (ds_set 2 sc_Ratio_compare.nd (he := (de_op2 od_sub subI_n (de_op2 od_mul mulI_n (de_fld B.k_Ratio (fld_Ratio_n B) (de_var 0)) (de_fld B.k_Ratio (fld_Ratio_d B) (de_var 1))) (de_op2 od_mul mulI_n (de_fld B.k_Ratio (fld_Ratio_n B) (de_var 1)) (de_fld B.k_Ratio (fld_Ratio_d B) (de_var 0))))))
  (dss_one (ds_ret (de_op2 od_sub subI_n (de_intC (de_cmp od_gt gtI_n (de_var 2) de_int (nomark _)) B.n_int) (de_intC (de_cmp od_lt ltI_n (de_var 2) de_int (nomark _)) B.n_int)))))
def f_Ratio_compare : List D → Res D := runD 3 2 b_Ratio_compare
theorem ok_Ratio_compare {Γ : Gam} (T : Top Γ) (B : Base Γ) : Cal Γ 41 (He.ma Γ.K (He.ga Γ.K "Ratio") "compare") f_Ratio_compare := cal_mk B.fd_Ratio_compare sc_Ratio_compare T (bd_Ratio_compare T B) (fun _ _ _ _ _ _ us hl => match us, hl with | [_, _], _ => rfl)
theorem calM_Ratio_compare {Γ : Gam} (T : Top Γ) (B : Base Γ) : CalM Γ 41 0 "compare" f_Ratio_compare := ⟨⟨_, B.mt_Ratio_compare, ok_Ratio_compare T B⟩, no_Ratio_compare B⟩
/-! Ratio.sign -/
theorem sc_Ratio_sign : FnScope ["self"] ["self"] (defScope st_Ratio_sign) := ⟨rfl, rfl, rfl, by decide +kernel, rfl, by decide +kernel, by decide +kernel⟩
def b_Ratio_sign : Env → Out :=
 (S.ret (E.op2 subI (E.op1 intC (E.op2 gtI (E.fld 0 0 (E.var 0)) (E.c (.int 0)))) (E.op1 intC (E.op2 ltI (E.fld 0 0 (E.var 0)) (E.c (.int 0))))))
theorem no_Ratio_sign {Γ : Gam} (B : Base Γ) : ("sign" : Str) ∉ Γ.fld 0 := by rw [B.fl_Ratio]; decide
theorem bd_Ratio_sign {Γ : Gam} (T : Top Γ) (B : Base Γ) : Body Γ (40) ["self"] "Ratio.sign" (defScope st_Ratio_sign) (He.ma Γ.K (He.ga Γ.K "Ratio") "sign") (defBody st_Ratio_sign) b_Ratio_sign := fun _ _ _ _ _ _ =>
 (dss_one (ds_ret (de_op2 od_sub subI_n (de_intC (de_cmp od_gt gtI_n (de_fld B.k_Ratio (fld_Ratio_n B) (de_var 0)) de_int (nomark _)) B.n_int) (de_intC (de_cmp od_lt ltI_n (de_fld B.k_Ratio (fld_Ratio_n B) (de_var 0)) de_int (nomark _)) B.n_int))))
def f_Ratio_sign : List D → Res D := runD 1 1 b_Ratio_sign
theorem ok_Ratio_sign {Γ : Gam} (T : Top Γ) (B : Base Γ) : Cal Γ 41 (He.ma Γ.K (He.ga Γ.K "Ratio") "sign") f_Ratio_sign := cal_mk B.fd_Ratio_sign sc_Ratio_sign T (bd_Ratio_sign T B) (fun _ _ _ _ _ _ us hl => match us, hl with | [_], _ => rfl)
theorem calM_Ratio_sign {Γ : Gam} (T : Top Γ) (B : Base Γ) : CalM Γ 41 0 "sign" f_Ratio_sign := ⟨⟨_, B.mt_Ratio_sign, ok_Ratio_sign T B⟩, no_Ratio_sign B⟩
/-! Ratio.floor -/
theorem sc_Ratio_floor : FnScope ["self"] ["self"] (defScope st_Ratio_floor) := ⟨rfl, rfl, rfl, by decide +kernel, rfl, by decide +kernel, by decide +kernel⟩
def b_Ratio_floor : Env → Out :=
 (S.ret (E.op2 fdivI (E.fld 0 0 (E.var 0)) (E.fld 0 1 (E.var 0))))
theorem no_Ratio_floor {Γ : Gam} (B : Base Γ) : ("floor" : Str) ∉ Γ.fld 0 := by rw [B.fl_Ratio]; decide
theorem bd_Ratio_floor {Γ : Gam} (T : Top Γ) (B : Base Γ) : Body Γ (40) ["self"] "Ratio.floor" (defScope st_Ratio_floor) (He.ma Γ.K (He.ga Γ.K "Ratio") "floor") (defBody st_Ratio_floor) b_Ratio_floor := fun _ _ _ _ _ _ =>
 (dss_one (ds_ret (de_op2 od_fdiv fdivI_n (de_fld B.k_Ratio (fld_Ratio_n B) (de_var 0)) (de_fld B.k_Ratio (fld_Ratio_d B) (de_var 0)))))
def f_Ratio_floor : List D → Res D := runD 1 1 b_Ratio_floor
theorem ok_Ratio_floor {Γ : Gam} (T : Top Γ) (B : Base Γ) : Cal Γ 41 (He.ma Γ.K (He.ga Γ.K "Ratio") "floor") f_Ratio_floor := cal_mk B.fd_Ratio_floor sc_Ratio_floor T (bd_Ratio_floor T B) (fun _ _ _ _ _ _ us hl => match us, hl with | [_], _ => rfl)
theorem calM_Ratio_floor {Γ : Gam} (T : Top Γ) (B : Base Γ) : CalM Γ 41 0 "floor" f_Ratio_floor := ⟨⟨_, B.mt_Ratio_floor, ok_Ratio_floor T B⟩, no_Ratio_floor B⟩
/-! Ratio.whole -/
theorem sc_Ratio_whole : FnScope ["self"] ["self"] (defScope st_Ratio_whole) := ⟨rfl, rfl, rfl, by decide +kernel, rfl, by decide +kernel, by decide +kernel⟩
def b_Ratio_whole : Env → Out :=
 (S.ret (E.op2 eqS (E.fld 0 1 (E.var 0)) (E.c (.int 1))))
theorem bd_Ratio_whole {Γ : Gam} (T : Top Γ) (B : Base Γ) : Body Γ (40) ["self"] "Ratio.whole" (defScope st_Ratio_whole) (getterAt Γ.K (He.ga Γ.K "Ratio") "whole") (defBody st_Ratio_whole) b_Ratio_whole := fun _ _ _ _ _ _ =>
 (dss_one (ds_ret (de_cmp od_eqS eqS_n (de_fld B.k_Ratio (fld_Ratio_d B) (de_var 0)) de_int (nomark _))))
def f_Ratio_whole : List D → Res D := runD 1 1 b_Ratio_whole
theorem ok_Ratio_whole {Γ : Gam} (T : Top Γ) (B : Base Γ) : Cal Γ 41 (getterAt Γ.K (He.ga Γ.K "Ratio") "whole") f_Ratio_whole := cal_mk B.fd_Ratio_whole sc_Ratio_whole T (bd_Ratio_whole T B) (fun _ _ _ _ _ _ us hl => match us, hl with | [_], _ => rfl)
theorem calP_Ratio_whole {Γ : Gam} (T : Top Γ) (B : Base Γ) : CalP Γ 41 0 "whole" f_Ratio_whole := ⟨⟨_, _, B.pr_Ratio_whole, ok_Ratio_whole T B⟩⟩
/-! Ratio.is_zero -/
theorem sc_Ratio_is_zero : FnScope ["self"] ["self"] (defScope st_Ratio_is_zero) := ⟨rfl, rfl, rfl, by decide +kernel, rfl, by decide +kernel, by decide +kernel⟩
def b_Ratio_is_zero : Env → Out :=
 (S.ret (E.op2 eqS (E.fld 0 0 (E.var 0)) (E.c (.int 0))))
theorem no_Ratio_is_zero {Γ : Gam} (B : Base Γ) : ("is_zero" : Str) ∉ Γ.fld 0 := by rw [B.fl_Ratio]; decide
theorem bd_Ratio_is_zero {Γ : Gam} (T : Top Γ) (B : Base Γ) : Body Γ (40) ["self"] "Ratio.is_zero" (defScope st_Ratio_is_zero) (He.ma Γ.K (He.ga Γ.K "Ratio") "is_zero") (defBody st_Ratio_is_zero) b_Ratio_is_zero := fun _ _ _ _ _ _ =>
 (dss_one (ds_ret (de_cmp od_eqS eqS_n (de_fld B.k_Ratio (fld_Ratio_n B) (de_var 0)) de_int (nomark _))))
def f_Ratio_is_zero : List D → Res D := runD 1 1 b_Ratio_is_zero
theorem ok_Ratio_is_zero {Γ : Gam} (T : Top Γ) (B : Base Γ) : Cal Γ 41 (He.ma Γ.K (He.ga Γ.K "Ratio") "is_zero") f_Ratio_is_zero := cal_mk B.fd_Ratio_is_zero sc_Ratio_is_zero T (bd_Ratio_is_zero T B) (fun _ _ _ _ _ _ us hl => match us, hl with | [_], _ => rfl)
theorem calM_Ratio_is_zero {Γ : Gam} (T : Top Γ) (B : Base Γ) : CalM Γ 41 0 "is_zero" f_Ratio_is_zero := ⟨⟨_, B.mt_Ratio_is_zero, ok_Ratio_is_zero T B⟩, no_Ratio_is_zero B⟩
/-! _law_no_inverse -/
theorem sc_law_no_inverse : FnScope ["_law_a", "_law_count"] ["_law_a"] (defScope st_law_no_inverse) := ⟨rfl, rfl, rfl, by decide +kernel, rfl, by decide +kernel, by decide +kernel⟩
def b_law_no_inverse : Env → Out :=
 (S.seq (S.set 1 (E.c (.int 0)))
  (S.seq (S.tryO sub_ZeroDivisor (S.expr (E.meth 0 f_Ratio_inverse (E.app (objR 0 f_Ratio_init_1) (E.cons (E.c (.int 0)) E.nil)) E.nil))
  (S.set 1 (E.op2 addI (E.var 1) (E.c (.int 1)))))
  (S.seq (S.tryO sub_ZeroDivisor (S.expr (E.meth 0 f_Ratio_over (E.var 0) (E.cons (E.app (objR 0 f_Ratio_init_1) (E.cons (E.c (.int 0)) E.nil)) E.nil)))
  (S.set 1 (E.op2 addI (E.var 1) (E.c (.int 1)))))
  (S.seq (S.tryO sub_ZeroDivisor (S.expr (E.meth 0 f_Ratio_power (E.app (objR 0 f_Ratio_init_1) (E.cons (E.c (.int 0)) E.nil)) (E.cons (E.op2 subI (E.op1 negI (E.c (.int 1))) (E.var 1)) E.nil)))
  (S.set 1 (E.op2 addI (E.var 1) (E.c (.int 1)))))
  (S.ret (E.op2 eqS (E.var 1) (E.c (.int 3))))))))
theorem bd_law_no_inverse {Γ : Gam} (T : Top Γ) (B : Base Γ) : Body Γ (46) ["_law_a", "_law_count"] "_law_no_inverse" (defScope st_law_no_inverse) (He.ga Γ.K "_law_no_inverse") (defBody st_law_no_inverse) b_law_no_inverse := fun _ _ _ _ _ _ =>
 (dss_cons (ds_set 1 sc_law_no_inverse.nd (he := de_int))
  (dss_cons (ds_try rfl rfl B.c_ZeroDivisor (names_glob B.cg_ZeroDivisor) (fun _ _ _ => (dss_one (ds_expr (de_meth0 B.k_Ratio (calM_Ratio_inverse T B) (de_make B.k_Ratio (calI_Ratio_1 T B) (da_cons de_int da_nil))))))
  (fun _ _ => (dss_one (ds_set 1 sc_law_no_inverse.nd (he := (de_op2 od_add addI_n (de_var 1) de_int))))))
  (dss_cons (ds_try rfl rfl B.c_ZeroDivisor (names_glob B.cg_ZeroDivisor) (fun _ _ _ => (dss_one (ds_expr (de_meth B.k_Ratio (calM_Ratio_over T B) (de_var 0) (da_cons (de_make B.k_Ratio (calI_Ratio_1 T B) (da_cons de_int da_nil)) da_nil)))))
  (fun _ _ => (dss_one (ds_set 1 sc_law_no_inverse.nd (he := (de_op2 od_add addI_n (de_var 1) de_int))))))
  (dss_cons (ds_try rfl rfl B.c_ZeroDivisor (names_glob B.cg_ZeroDivisor) (fun _ _ _ => (dss_one (ds_expr (de_meth B.k_Ratio (calM_Ratio_power T B) (de_make B.k_Ratio (calI_Ratio_1 T B) (da_cons de_int da_nil)) (da_cons (de_op2 od_sub subI_n (de_neg de_int) (de_var 1)) da_nil)))))
  (fun _ _ => (dss_one (ds_set 1 sc_law_no_inverse.nd (he := (de_op2 od_add addI_n (de_var 1) de_int))))))
  (dss_one (ds_ret (de_cmp od_eqS eqS_n (de_var 1) de_int (nomark _))))))))
def f_law_no_inverse : List D → Res D := runD 2 1 b_law_no_inverse
theorem ok_law_no_inverse {Γ : Gam} (T : Top Γ) (B : Base Γ) : Cal Γ 47 (He.ga Γ.K "_law_no_inverse") f_law_no_inverse := cal_mk B.fd_law_no_inverse sc_law_no_inverse T (bd_law_no_inverse T B) (fun _ _ _ _ _ _ us hl => match us, hl with | [_], _ => rfl)
/-! law -/
theorem sc_law : FnScope ["_law_script", "_law_a", "_law_b", "_law_k", "_law_x", "_law_y", "_law_minus", "_law_due", "_law_told", "_law_at", "_law_gap", "_law_low"] ["_law_script"] (defScope st_law) := ⟨rfl, rfl, rfl, by decide +kernel, rfl, by decide +kernel, by decide +kernel⟩
def b_law : Env → Out :=
 (S.seq (S.set 1 (E.app f_law_drawn (E.cons (E.var 0) (E.cons (E.c (.int 0)) E.nil))))
  (S.seq (S.set 2 (E.app f_law_drawn (E.cons (E.var 0) (E.cons (E.c (.int 1)) E.nil))))
  (S.seq (S.set 3 (E.op2 subI (E.ix (E.appF f_law_draws (E.cons (E.var 0) (E.cons (E.c (.int 2)) (E.cons (E.c (.int 1)) (E.cons (E.c (.int 11)) E.nil))))) (E.c (.int 0))) (E.c (.int 5))))
  (S.seq (S.set 4 (E.app (objR 0 f_Ratio_init_2) (E.cons (E.ix (Z.tup (E.var 1)) (E.c (.int 0))) (E.cons (E.ix (Z.tup (E.var 1)) (E.c (.int 1))) E.nil))))
  (S.seq (S.set 5 (E.app (objR 0 f_Ratio_init_2) (E.cons (E.ix (Z.tup (E.var 2)) (E.c (.int 0))) (E.cons (E.ix (Z.tup (E.var 2)) (E.c (.int 1))) E.nil))))
  (S.seq (S.set 6 (E.tupl (E.cons (E.op1 negI (E.ix (Z.tup (E.var 2)) (E.c (.int 0)))) (E.cons (E.ix (Z.tup (E.var 2)) (E.c (.int 1))) E.nil))))
  (S.seq (S.setF 7 (E.disp (E.cons (E.app f_law_add (E.cons (E.var 1) (E.cons (E.var 2) E.nil))) (E.cons (E.app f_law_add (E.cons (E.var 1) (E.cons (E.var 6) E.nil))) (E.cons (E.app f_law_mul (E.cons (E.var 1) (E.cons (E.var 2) E.nil))) (E.cons (E.var 6) E.nil))))))
  (S.seq (S.setF 8 (E.disp (E.cons (E.own2 0 f_Ratio_add (E.var 4) (E.var 5)) (E.cons (E.own2 0 f_Ratio_sub (E.var 4) (E.var 5)) (E.cons (E.own2 0 f_Ratio_mul (E.var 4) (E.var 5)) (E.cons (E.meth 0 f_Ratio_neg (E.var 5) E.nil) E.nil))))))
  (S.seq (S.ite (T.tst (E.op2 neS (E.ix (Z.tup (E.var 2)) (E.c (.int 0))) (E.c (.int 0))))
  (S.seq (S.app 7 (E.app f_law_rat (E.cons (E.ix (Z.tup (E.var 2)) (E.c (.int 1))) (E.cons (E.ix (Z.tup (E.var 2)) (E.c (.int 0))) E.nil))))
  (S.seq (S.app 8 (E.meth 0 f_Ratio_inverse (E.var 5) E.nil))
  (S.seq (S.app 7 (E.app f_law_rat (E.cons (E.op2 mulI (E.ix (Z.tup (E.var 1)) (E.c (.int 0))) (E.ix (Z.tup (E.var 2)) (E.c (.int 1)))) (E.cons (E.op2 mulI (E.ix (Z.tup (E.var 1)) (E.c (.int 1))) (E.ix (Z.tup (E.var 2)) (E.c (.int 0)))) E.nil))))
  (S.app 8 (E.meth 0 f_Ratio_over (E.var 4) (E.cons (E.var 5) E.nil))))))
  S.skip)
  (S.seq (S.ite (T.or (T.tst (E.op2 geI (E.var 3) (E.c (.int 0)))) (T.tst (E.op2 neS (E.ix (Z.tup (E.var 1)) (E.c (.int 0))) (E.c (.int 0)))))
  (S.seq (S.app 7 (E.app f_law_power (E.cons (E.var 1) (E.cons (E.var 3) E.nil))))
  (S.app 8 (E.meth 0 f_Ratio_power (E.var 4) (E.cons (E.var 3) E.nil))))
  S.skip)
  (S.seq (S.app 7 (E.app f_law_add (E.cons (E.app f_law_add (E.cons (E.var 1) (E.cons (E.var 2) E.nil))) (E.cons (E.app f_law_add (E.cons (E.var 1) (E.cons (E.var 6) E.nil))) E.nil))))
  (S.seq (S.app 8 (E.app f_total (E.cons (E.lst (E.disp (E.cons (E.var 4) (E.cons (E.var 5) (E.cons (E.var 4) (E.cons (E.meth 0 f_Ratio_neg (E.var 5) E.nil) E.nil)))))) E.nil)))
  (S.seq (S.app 7 (E.tupl (E.cons (E.c (.int 0)) (E.cons (E.c (.int 1)) E.nil))))
  (S.seq (S.app 8 (E.app f_total (E.cons (E.tupl E.nil) E.nil)))
  (S.seq (S.forE (E.rng1 (E.len (Z.own 7))) (S.tgt 9)
  (S.ite (T.tst (E.op2 neD (E.app f_law_pair (E.cons (E.ix (Z.own 8) (E.var 9)) E.nil)) (E.ix (Z.own 7) (E.var 9))))
  (S.ret (E.c (.bl false)))
  S.skip))
  (S.seq (S.set 10 (E.op2 subI (E.op2 mulI (E.ix (Z.tup (E.var 1)) (E.c (.int 0))) (E.ix (Z.tup (E.var 2)) (E.c (.int 1)))) (E.op2 mulI (E.ix (Z.tup (E.var 2)) (E.c (.int 0))) (E.ix (Z.tup (E.var 1)) (E.c (.int 1))))))
  (S.seq (S.ite (T.or (T.tst (E.op2 neS (E.meth 0 f_Ratio_compare (E.var 4) (E.cons (E.var 5) E.nil)) (E.op2 subI (E.op1 intC (E.op2 gtI (E.var 10) (E.c (.int 0)))) (E.op1 intC (E.op2 ltI (E.var 10) (E.c (.int 0))))))) (T.tst (E.op2 neS (E.meth 0 f_Ratio_sign (E.var 4) E.nil) (E.op2 subI (E.op1 intC (E.op2 gtI (E.ix (Z.tup (E.var 1)) (E.c (.int 0))) (E.c (.int 0)))) (E.op1 intC (E.op2 ltI (E.ix (Z.tup (E.var 1)) (E.c (.int 0))) (E.c (.int 0))))))))
  (S.ret (E.c (.bl false)))
  S.skip)
  (S.seq (S.set 11 (E.meth 0 f_Ratio_floor (E.var 4) E.nil))
  (S.seq (S.ite (T.or (T.not (T.tst (E.app f_law_is_integer (E.cons (E.var 11) E.nil)))) (T.not (T.tst (E.chain leI ltI (E.op2 mulI (E.var 11) (E.ix (Z.tup (E.var 1)) (E.c (.int 1)))) (E.ix (Z.tup (E.var 1)) (E.c (.int 0))) (E.op2 mulI (E.op2 addI (E.var 11) (E.c (.int 1))) (E.ix (Z.tup (E.var 1)) (E.c (.int 1))))))))
  (S.ret (E.c (.bl false)))
  S.skip)
  (S.seq (S.ite (T.or (T.tst (E.op2 neS (E.prop 0 f_Ratio_whole (E.var 4)) (E.op2 eqS (E.ix (Z.tup (E.var 1)) (E.c (.int 1))) (E.c (.int 1))))) (T.or (T.not (T.tst (E.op1 (isiR isi_bool) (E.prop 0 f_Ratio_whole (E.var 4))))) (T.tst (E.op2 neS (E.meth 0 f_Ratio_is_zero (E.var 4) E.nil) (E.op2 eqS (E.ix (Z.tup (E.var 1)) (E.c (.int 0))) (E.c (.int 0)))))))
  (S.ret (E.c (.bl false)))
  S.skip)
  (S.ret (E.and (E.op2 eqD (E.app f_law_pair (E.cons (E.var 4) E.nil)) (E.var 1)) (E.and (E.op2 eqD (E.app f_law_pair (E.cons (E.var 5) E.nil)) (E.var 2)) (E.app f_law_no_inverse (E.cons (E.var 4) E.nil)))))))))))))))))))))))))
theorem bd_law {Γ : Gam} (T : Top Γ) (B : Base Γ) : Body Γ (47) ["_law_script", "_law_a", "_law_b", "_law_k", "_law_x", "_law_y", "_law_minus", "_law_due", "_law_told", "_law_at", "_law_gap", "_law_low"] "law" (defScope st_law) (He.ga Γ.K "law") (defBody st_law) b_law := fun _ _ _ _ _ _ =>
 (dss_cons (ds_set 1 sc_law.nd (he := (de_call B.g_law_drawn (ok_law_drawn T B) (da_cons (de_var 0) (da_cons de_int da_nil)))))
  (dss_cons (ds_set 2 sc_law.nd (he := (de_call B.g_law_drawn (ok_law_drawn T B) (da_cons (de_var 0) (da_cons de_int da_nil)))))
  (dss_cons (ds_set 3 sc_law.nd (he := (de_op2 od_sub subI_n (de_ix (dq_df (df_call B.g_law_draws (ok_law_draws T B) (da_cons (de_var 0) (da_cons de_int (da_cons de_int (da_cons de_int da_nil)))))) de_int) de_int)))
  (dss_cons (ds_set 4 sc_law.nd (he := (de_make B.k_Ratio (calI_Ratio_2 T B) (da_cons (de_ix (dq_tup (de_var 1)) de_int) (da_cons (de_ix (dq_tup (de_var 1)) de_int) da_nil)))))
  (dss_cons (ds_set 5 sc_law.nd (he := (de_make B.k_Ratio (calI_Ratio_2 T B) (da_cons (de_ix (dq_tup (de_var 2)) de_int) (da_cons (de_ix (dq_tup (de_var 2)) de_int) da_nil)))))
  (dss_cons (ds_set 6 sc_law.nd (he := (de_tupl (da_cons (de_neg (de_ix (dq_tup (de_var 2)) de_int)) (da_cons (de_ix (dq_tup (de_var 2)) de_int) da_nil)))))
  (dss_cons (ds_setF 7 sc_law.nd (he := (df_lst (da_cons (de_call B.g_law_add (ok_law_add T B) (da_cons (de_var 1) (da_cons (de_var 2) da_nil))) (da_cons (de_call B.g_law_add (ok_law_add T B) (da_cons (de_var 1) (da_cons (de_var 6) da_nil))) (da_cons (de_call B.g_law_mul (ok_law_mul T B) (da_cons (de_var 1) (da_cons (de_var 2) da_nil))) (da_cons (de_var 6) da_nil)))))))
  (dss_cons (ds_setF 8 sc_law.nd (he := (df_lst (da_cons (de_own2 B.k_Ratio (calM_Ratio_add T B) rfl (de_var 4) (de_var 5)) (da_cons (de_own2 B.k_Ratio (calM_Ratio_sub T B) rfl (de_var 4) (de_var 5)) (da_cons (de_own2 B.k_Ratio (calM_Ratio_mul T B) rfl (de_var 4) (de_var 5)) (da_cons (de_ownNeg B.k_Ratio (calM_Ratio_neg T B) (de_var 5)) da_nil)))))))
  (dss_cons (ds_ite (dt_cmp od_neS neS_n (de_ix (dq_tup (de_var 2)) de_int) de_int (nomark _))
  (dss_cons (ds_app 7 (de_call B.g_law_rat (ok_law_rat T B) (da_cons (de_ix (dq_tup (de_var 2)) de_int) (da_cons (de_ix (dq_tup (de_var 2)) de_int) da_nil))))
  (dss_cons (ds_app 8 (de_meth0 B.k_Ratio (calM_Ratio_inverse T B) (de_var 5)))
  (dss_cons (ds_app 7 (de_call B.g_law_rat (ok_law_rat T B) (da_cons (de_op2 od_mul mulI_n (de_ix (dq_tup (de_var 1)) de_int) (de_ix (dq_tup (de_var 2)) de_int)) (da_cons (de_op2 od_mul mulI_n (de_ix (dq_tup (de_var 1)) de_int) (de_ix (dq_tup (de_var 2)) de_int)) da_nil))))
  (dss_one (ds_app 8 (de_meth B.k_Ratio (calM_Ratio_over T B) (de_var 4) (da_cons (de_var 5) da_nil)))))))
  dss_nil)
  (dss_cons (ds_ite (dt_bool (dw_or (dt_cmp od_ge geI_n (de_var 3) de_int (nomark _)) (dw_or1 (dt_cmp od_neS neS_n (de_ix (dq_tup (de_var 1)) de_int) de_int (nomark _)))))
  (dss_cons (ds_app 7 (de_call B.g_law_power (ok_law_power T B) (da_cons (de_var 1) (da_cons (de_var 3) da_nil))))
  (dss_one (ds_app 8 (de_meth B.k_Ratio (calM_Ratio_power T B) (de_var 4) (da_cons (de_var 3) da_nil)))))
  dss_nil)
  (dss_cons (ds_app 7 (de_call B.g_law_add (ok_law_add T B) (da_cons (de_call B.g_law_add (ok_law_add T B) (da_cons (de_var 1) (da_cons (de_var 2) da_nil))) (da_cons (de_call B.g_law_add (ok_law_add T B) (da_cons (de_var 1) (da_cons (de_var 6) da_nil))) da_nil))))
  (dss_cons (ds_app 8 (de_call B.g_total (ok_total T B) (da_cons (de_lst (df_lst (da_cons (de_var 4) (da_cons (de_var 5) (da_cons (de_var 4) (da_cons (de_ownNeg B.k_Ratio (calM_Ratio_neg T B) (de_var 5)) da_nil)))))) da_nil)))
  (dss_cons (ds_app 7 (de_tupl (da_cons de_int (da_cons de_int da_nil))))
  (dss_cons (ds_app 8 (de_call B.g_total (ok_total T B) (da_cons (de_tupl da_nil) da_nil)))
  (dss_cons (ds_for (di_rng1 (de_len (dq_own 7) B.n_len) B.n_range) (dg_name 9 sc_law.nd)
  (dss_one (ds_ite (dt_cmp od_neD neD_n (de_call B.g_law_pair (ok_law_pair T B) (da_cons (de_ix (dq_own 8) (de_var 9)) da_nil)) (de_ix (dq_own 7) (de_var 9)) (nomark _))
  (dss_one (ds_ret de_bl))
  dss_nil)))
  (dss_cons (ds_set 10 sc_law.nd (he := (de_op2 od_sub subI_n (de_op2 od_mul mulI_n (de_ix (dq_tup (de_var 1)) de_int) (de_ix (dq_tup (de_var 2)) de_int)) (de_op2 od_mul mulI_n (de_ix (dq_tup (de_var 2)) de_int) (de_ix (dq_tup (de_var 1)) de_int)))))
  (dss_cons (ds_ite (dt_bool (dw_or (dt_cmp od_neS neS_n (de_meth B.k_Ratio (calM_Ratio_compare T B) (de_var 4) (da_cons (de_var 5) da_nil)) (de_op2 od_sub subI_n (de_intC (de_cmp od_gt gtI_n (de_var 10) de_int (nomark _)) B.n_int) (de_intC (de_cmp od_lt ltI_n (de_var 10) de_int (nomark _)) B.n_int)) (nomark _)) (dw_or1 (dt_cmp od_neS neS_n (de_meth0 B.k_Ratio (calM_Ratio_sign T B) (de_var 4)) (de_op2 od_sub subI_n (de_intC (de_cmp od_gt gtI_n (de_ix (dq_tup (de_var 1)) de_int) de_int (nomark _)) B.n_int) (de_intC (de_cmp od_lt ltI_n (de_ix (dq_tup (de_var 1)) de_int) de_int (nomark _)) B.n_int)) (nomark _)))))
  (dss_one (ds_ret de_bl))
  dss_nil)
  (dss_cons (ds_set 11 sc_law.nd (he := (de_meth0 B.k_Ratio (calM_Ratio_floor T B) (de_var 4))))
  (dss_cons (ds_ite (dt_bool (dw_or (dt_not (dt_val (de_call B.g_law_is_integer (ok_law_is_integer T B) (da_cons (de_var 11) da_nil)))) (dw_or1 (dt_not (dt_chain od_le leI_n od_lt ltI_n (de_op2 od_mul mulI_n (de_var 11) (de_ix (dq_tup (de_var 1)) de_int)) (de_ix (dq_tup (de_var 1)) de_int) (de_op2 od_mul mulI_n (de_op2 od_add addI_n (de_var 11) de_int) (de_ix (dq_tup (de_var 1)) de_int)))))))
  (dss_one (ds_ret de_bl))
  dss_nil)
  (dss_cons (ds_ite (dt_bool (dw_or (dt_cmp od_neS neS_n (de_prop B.k_Ratio (calP_Ratio_whole T B) (de_var 4)) (de_cmp od_eqS eqS_n (de_ix (dq_tup (de_var 1)) de_int) de_int (nomark _)) (nomark _)) (dw_or (dt_not (dt_val (de_isiT B.isi_bool (de_prop B.k_Ratio (calP_Ratio_whole T B) (de_var 4)) B.n_isinstance B.n_bool (by decide +kernel)))) (dw_or1 (dt_cmp od_neS neS_n (de_meth0 B.k_Ratio (calM_Ratio_is_zero T B) (de_var 4)) (de_cmp od_eqS eqS_n (de_ix (dq_tup (de_var 1)) de_int) de_int (nomark _)) (nomark _))))))
  (dss_one (ds_ret de_bl))
  dss_nil)
  (dss_one (ds_ret (de_and (de_cmp od_eqD eqD_n (de_call B.g_law_pair (ok_law_pair T B) (da_cons (de_var 4) da_nil)) (de_var 1) (nomark _)) (de_and (de_cmp od_eqD eqD_n (de_call B.g_law_pair (ok_law_pair T B) (da_cons (de_var 5) da_nil)) (de_var 2) (nomark _)) (de_one (de_call B.g_law_no_inverse (ok_law_no_inverse T B) (da_cons (de_var 4) da_nil)))))))))))))))))))))))))))
def f_law : List D → Res D := runD 12 1 b_law
theorem ok_law {Γ : Gam} (T : Top Γ) (B : Base Γ) : Cal Γ 48 (He.ga Γ.K "law") f_law := cal_mk B.fd_law sc_law T (bd_law T B) (fun _ _ _ _ _ _ us hl => match us, hl with | [_], _ => rfl)
set_option Elab.async false
set_option linter.all false
set_option maxRecDepth 100000
set_option maxHeartbeats 0
open PySem L2
def tolds : List Told := [
  { adr := fun K => He.ga K "_law_cell", nm := "_law_cell", ql := "_law_cell", ar := defArgs st_law_cell, bd := defBody st_law_cell, sc := defScope st_law_cell, df := [] },
  { adr := fun K => He.ga K "_law_draws", nm := "_law_draws", ql := "_law_draws", ar := defArgs st_law_draws, bd := defBody st_law_draws, sc := defScope st_law_draws, df := [] },
  { adr := fun K => He.ga K "_law_gcd", nm := "_law_gcd", ql := "_law_gcd", ar := defArgs st_law_gcd, bd := defBody st_law_gcd, sc := defScope st_law_gcd, df := [] },
  { adr := fun K => He.ga K "_law_rat", nm := "_law_rat", ql := "_law_rat", ar := defArgs st_law_rat, bd := defBody st_law_rat, sc := defScope st_law_rat, df := [] },
  { adr := fun K => He.ga K "_law_drawn", nm := "_law_drawn", ql := "_law_drawn", ar := defArgs st_law_drawn, bd := defBody st_law_drawn, sc := defScope st_law_drawn, df := [] },
  { adr := fun K => He.ma K (He.ga K "Ratio") "__init__", nm := "__init__", ql := "Ratio.__init__", ar := defArgs st_Ratio_init, bd := defBody st_Ratio_init, sc := defScope st_Ratio_init, df := [(.int 1)] },
  { adr := fun K => He.ga K "_law_add", nm := "_law_add", ql := "_law_add", ar := defArgs st_law_add, bd := defBody st_law_add, sc := defScope st_law_add, df := [] },
  { adr := fun K => He.ga K "_law_mul", nm := "_law_mul", ql := "_law_mul", ar := defArgs st_law_mul, bd := defBody st_law_mul, sc := defScope st_law_mul, df := [] },
  { adr := fun K => He.ma K (He.ga K "Ratio") "__add__", nm := "__add__", ql := "Ratio.__add__", ar := defArgs st_Ratio_add, bd := defBody st_Ratio_add, sc := defScope st_Ratio_add, df := [] },
  { adr := fun K => He.ma K (He.ga K "Ratio") "__sub__", nm := "__sub__", ql := "Ratio.__sub__", ar := defArgs st_Ratio_sub, bd := defBody st_Ratio_sub, sc := defScope st_Ratio_sub, df := [] },
  { adr := fun K => He.ma K (He.ga K "Ratio") "__mul__", nm := "__mul__", ql := "Ratio.__mul__", ar := defArgs st_Ratio_mul, bd := defBody st_Ratio_mul, sc := defScope st_Ratio_mul, df := [] },
  { adr := fun K => He.ma K (He.ga K "Ratio") "__neg__", nm := "__neg__", ql := "Ratio.__neg__", ar := defArgs st_Ratio_neg, bd := defBody st_Ratio_neg, sc := defScope st_Ratio_neg, df := [] },
  { adr := fun K => He.ma K (He.ga K "Ratio") "inverse", nm := "inverse", ql := "Ratio.inverse", ar := defArgs st_Ratio_inverse, bd := defBody st_Ratio_inverse, sc := defScope st_Ratio_inverse, df := [] },
  { adr := fun K => He.ma K (He.ga K "Ratio") "over", nm := "over", ql := "Ratio.over", ar := defArgs st_Ratio_over, bd := defBody st_Ratio_over, sc := defScope st_Ratio_over, df := [] },
  { adr := fun K => He.ga K "_law_power", nm := "_law_power", ql := "_law_power", ar := defArgs st_law_power, bd := defBody st_law_power, sc := defScope st_law_power, df := [] },
  { adr := fun K => He.ma K (He.ga K "Ratio") "power", nm := "power", ql := "Ratio.power", ar := defArgs st_Ratio_power, bd := defBody st_Ratio_power, sc := defScope st_Ratio_power, df := [] },
  { adr := fun K => He.ga K "total", nm := "total", ql := "total", ar := defArgs st_total, bd := defBody st_total, sc := defScope st_total, df := [] },
  { adr := fun K => He.ga K "_law_is_integer", nm := "_law_is_integer", ql := "_law_is_integer", ar := defArgs st_law_is_integer, bd := defBody st_law_is_integer, sc := defScope st_law_is_integer, df := [] },
  { adr := fun K => He.ga K "_law_pair", nm := "_law_pair", ql := "_law_pair", ar := defArgs st_law_pair, bd := defBody st_law_pair, sc := defScope st_law_pair, df := [] },
  { adr := fun K => He.ma K (He.ga K "Ratio") "compare", nm := "compare", ql := "Ratio.compare", ar := defArgs st_Ratio_compare, bd := defBody st_Ratio_compare, sc := defScope st_Ratio_compare, df := [] },
  { adr := fun K => He.ma K (He.ga K "Ratio") "sign", nm := "sign", ql := "Ratio.sign", ar := defArgs st_Ratio_sign, bd := defBody st_Ratio_sign, sc := defScope st_Ratio_sign, df := [] },
  { adr := fun K => He.ma K (He.ga K "Ratio") "floor", nm := "floor", ql := "Ratio.floor", ar := defArgs st_Ratio_floor, bd := defBody st_Ratio_floor, sc := defScope st_Ratio_floor, df := [] },
  { adr := fun K => getterAt K (He.ga K "Ratio") "whole", nm := "whole", ql := "Ratio.whole", ar := defArgs st_Ratio_whole, bd := defBody st_Ratio_whole, sc := defScope st_Ratio_whole, df := [] },
  { adr := fun K => He.ma K (He.ga K "Ratio") "is_zero", nm := "is_zero", ql := "Ratio.is_zero", ar := defArgs st_Ratio_is_zero, bd := defBody st_Ratio_is_zero, sc := defScope st_Ratio_is_zero, df := [] },
  { adr := fun K => He.ga K "_law_no_inverse", nm := "_law_no_inverse", ql := "_law_no_inverse", ar := defArgs st_law_no_inverse, bd := defBody st_law_no_inverse, sc := defScope st_law_no_inverse, df := [] },
  { adr := fun K => He.ga K "law", nm := "law", ql := "law", ar := defArgs st_law, bd := defBody st_law, sc := defScope st_law, df := [] }]
def cfacts : List (PySem.W.Frag → Bool) := [
  fun K => (He.Fa.free "abs").ok K,
  fun K => (He.Fa.free "bool").ok K,
  fun K => (He.Fa.free "int").ok K,
  fun K => (He.Fa.free "isinstance").ok K,
  fun K => (He.Fa.free "len").ok K,
  fun K => (He.Fa.free "range").ok K,
  fun K => He.eqO (PySem.W.nsIn K mainGlobals "gcd") (some (some (.builtin "math.gcd"))),
  clsC "Ratio",
  fun K => (He.Fa.noat "Ratio" "d").ok K,
  fun K => (He.Fa.noat "Ratio" "n").ok K,
  gloC "_law_cell",
  gloC "_law_draws",
  gloC "_law_gcd",
  gloC "_law_rat",
  gloC "_law_drawn",
  fun K => (He.Fa.mkr "Ratio").ok K,
  gloC "_law_add",
  gloC "_law_mul",
  fun K => (He.Fa.meth "Ratio" "__add__").ok K,
  fun K => (He.Fa.meth "Ratio" "__sub__").ok K,
  fun K => (He.Fa.meth "Ratio" "__mul__").ok K,
  fun K => (He.Fa.meth "Ratio" "__neg__").ok K,
  fun K => (He.Fa.meth "Ratio" "inverse").ok K,
  fun K => (He.Fa.meth "Ratio" "over").ok K,
  gloC "_law_power",
  fun K => (He.Fa.meth "Ratio" "power").ok K,
  gloC "total",
  gloC "_law_is_integer",
  gloC "_law_pair",
  fun K => (He.Fa.meth "Ratio" "compare").ok K,
  fun K => (He.Fa.meth "Ratio" "sign").ok K,
  fun K => (He.Fa.meth "Ratio" "floor").ok K,
  proC "Ratio" "whole",
  fun K => (He.Fa.meth "Ratio" "is_zero").ok K,
  gloC "_law_no_inverse",
  excC "ZeroDivisor",
  isC (fun K => .ref (He.ga K "Ratio")) nmOf ⟨false, false, false, false, false, false, [(0, true)]⟩,
  isC (fun K => .type "bool") nmOf ⟨false, true, false, false, false, false, [(0, false)]⟩,
  isC (fun K => .type "int") nmOf ⟨false, true, true, false, false, false, [(0, false)]⟩,
  catC (fun K => .ref (He.ga K "ZeroDivisor")) nmOf [(20, false), (21, true)],
  fun K => (He.Fa.glo "ZeroDivisor").ok K,
  fun K => (He.Fa.glo "law").ok K]
theorem base_of {Γ : Gam} {h : Heap} (N : Named Γ nmOf h) (hf : Γ.fld = fldOf) (c : Seen cfacts tolds Γ.K) : Base Γ := {
  n_abs := N.free (c.of 0 rfl)
  n_bool := N.free (c.of 1 rfl)
  n_int := N.free (c.of 2 rfl)
  n_isinstance := N.free (c.of 3 rfl)
  n_len := N.free (c.of 4 rfl)
  n_range := N.free (c.of 5 rfl)
  gcd := PySem.W.mg_of N.KX N.ns (He.eqO_ok (c.of 6 rfl))
  k_Ratio := N.cls_ rfl (c.of 7 rfl)
  fl_Ratio := by rw [hf] <;> rfl
  na_Ratio_d := N.noat rfl (c.of 8 rfl)
  na_Ratio_n := N.noat rfl (c.of 9 rfl)
  fd_law_cell := c.fun_ 0 rfl
  g_law_cell := N.glo (c.of 10 rfl)
  fd_law_draws := c.fun_ 1 rfl
  g_law_draws := N.glo (c.of 11 rfl)
  fd_law_gcd := c.fun_ 2 rfl
  g_law_gcd := N.glo (c.of 12 rfl)
  fd_law_rat := c.fun_ 3 rfl
  g_law_rat := N.glo (c.of 13 rfl)
  fd_law_drawn := c.fun_ 4 rfl
  g_law_drawn := N.glo (c.of 14 rfl)
  fd_Ratio_init := c.fun_ 5 rfl
  mk_Ratio := N.mkr rfl (c.of 15 rfl)
  fd_law_add := c.fun_ 6 rfl
  g_law_add := N.glo (c.of 16 rfl)
  fd_law_mul := c.fun_ 7 rfl
  g_law_mul := N.glo (c.of 17 rfl)
  fd_Ratio_add := c.fun_ 8 rfl
  mt_Ratio_add := N.meth rfl (c.of 18 rfl)
  fd_Ratio_sub := c.fun_ 9 rfl
  mt_Ratio_sub := N.meth rfl (c.of 19 rfl)
  fd_Ratio_mul := c.fun_ 10 rfl
  mt_Ratio_mul := N.meth rfl (c.of 20 rfl)
  fd_Ratio_neg := c.fun_ 11 rfl
  mt_Ratio_neg := N.meth rfl (c.of 21 rfl)
  fd_Ratio_inverse := c.fun_ 12 rfl
  mt_Ratio_inverse := N.meth rfl (c.of 22 rfl)
  fd_Ratio_over := c.fun_ 13 rfl
  mt_Ratio_over := N.meth rfl (c.of 23 rfl)
  fd_law_power := c.fun_ 14 rfl
  g_law_power := N.glo (c.of 24 rfl)
  fd_Ratio_power := c.fun_ 15 rfl
  mt_Ratio_power := N.meth rfl (c.of 25 rfl)
  fd_total := c.fun_ 16 rfl
  g_total := N.glo (c.of 26 rfl)
  fd_law_is_integer := c.fun_ 17 rfl
  g_law_is_integer := N.glo (c.of 27 rfl)
  fd_law_pair := c.fun_ 18 rfl
  g_law_pair := N.glo (c.of 28 rfl)
  fd_Ratio_compare := c.fun_ 19 rfl
  mt_Ratio_compare := N.meth rfl (c.of 29 rfl)
  fd_Ratio_sign := c.fun_ 20 rfl
  mt_Ratio_sign := N.meth rfl (c.of 30 rfl)
  fd_Ratio_floor := c.fun_ 21 rfl
  mt_Ratio_floor := N.meth rfl (c.of 31 rfl)
  fd_Ratio_whole := c.fun_ 22 rfl
  pr_Ratio_whole := N.pro rfl (c.of 32 rfl)
  fd_Ratio_is_zero := c.fun_ 23 rfl
  mt_Ratio_is_zero := N.meth rfl (c.of 33 rfl)
  fd_law_no_inverse := c.fun_ 24 rfl
  g_law_no_inverse := N.glo (c.of 34 rfl)
  fd_law := c.fun_ 25 rfl
  x_ZeroDivisor := N.exc rfl (c.of 35 rfl)
  isi_Ratio := by rw [N.cl]; exact N.isi (c.of 36 rfl) (fun p hp => by
    simp only [List.mem_cons, List.not_mem_nil, or_false] at hp
    rcases hp with rfl
    · exact (N.cls_ (x := "Ratio") rfl (c.of 7 rfl)).ins)
  isi_bool := N.isi (c.of 37 rfl) (fun p hp => by
    simp only [List.mem_cons, List.not_mem_nil, or_false] at hp
    rcases hp with rfl
    · exact (N.cls_ (x := "Ratio") rfl (c.of 7 rfl)).ins)
  isi_int := N.isi (c.of 38 rfl) (fun p hp => by
    simp only [List.mem_cons, List.not_mem_nil, or_false] at hp
    rcases hp with rfl
    · exact (N.cls_ (x := "Ratio") rfl (c.of 7 rfl)).ins)
  c_ZeroDivisor := by rw [N.cl]; exact N.cat (c.of 39 rfl)
  cg_ZeroDivisor := N.mgc rfl (c.of 40 rfl)
  }
abbrev RowO : PySem.W.OpenRow := PySem.W.OpenLaw.row PySem.Challenge.rw_indicial_k01_arithmetic
abbrev hkS : PySem.W.Hook := hookS 5 cfacts tolds
def obS (s : PySem.W.SharedT) : Sight := sightG 5 cfacts tolds (HandSHeadRun.getT s)
theorem obS_eq (s : PySem.W.SharedT) : obS s = hkS.obs s.abs := sightG_eq (HandSHeadRun.getT_eq s)
theorem run_top (w : World) : HandSHeadRun.RunEqI RowO (PySem.W.view RowO.prog [0, 21]) hkS obS 4000 ["Fault", "ZeroDivisor", "PIECE", "written_integer", "Ratio", "total", "_law_cell", "_law_draws", "_law_gcd", "_law_rat", "_law_add", "_law_mul", "_law_is_integer", "_law_pair", "_law_drawn", "_law_power", "_law_no_inverse"] w := by
  unfold HandSHeadRun.RunEqI
  kernel_rfl
theorem law_kept (pure_ : ∀ ns : List Int, ns.length ≤ 63 → (∀ z ∈ ns, Builtin.Int.intBits z ≤ 1048576) → f_law [scr ns] = .ok (.bl true)) : PySem.Challenge.rw_indicial_k01_arithmetic.Holds := by
  w_on; o_law
  refine HandSHeadRun.head_imp (r := RowO) (q := PySem.W.view RowO.prog [0, 21]) (H := hkS) (ob := obS) (M := 4000) (loose := ["Fault", "ZeroDivisor", "PIECE", "written_integer", "Ratio", "total", "_law_cell", "_law_draws", "_law_gcd", "_law_rat", "_law_add", "_law_mul", "_law_is_integer", "_law_pair", "_law_drawn", "_law_power", "_law_no_inverse"]) (d := HandSHeadRun.topDef RowO.prog 21) (kwd := []) obS_eq
    run_top (by kernel_rfl) (by kernel_rfl) (by kernel_rfl) (by rfl) (by first | assumption | decide +kernel) (by decide +kernel) ⟨rfl, rfl, rfl, rfl, rfl, by decide +kernel⟩ ?hw ?hc
  case hw => w_witness2
  case hc =>
    have en : (HandSHeadRun.topDef RowO.prog 21).name = ("law" : Str) := by kernel_rfl
    refine law_end (l := PySem.Challenge.rw_indicial_k01_arithmetic) (n := 63) (k := 48) (x := "_law_script") rfl (by decide) (by kernel_rfl) ⟨rfl, by decide, by decide⟩ (by decide +kernel) (fun K c => ?_) fun K h mg X G c => ?_
    · obtain ⟨fd, F⟩ := c.fun_ 25 rfl
      refine ⟨fd, fun s u => FunD.bindsA (ps := ["_law_script"]) F (fun _ _ _ _ _ _ us hl => match us, hl with | [_], _ => rfl) s [u] rfl, fun w h base mg X G NS => ?_⟩
      have N : Named (gam PySem.Challenge.rw_indicial_k01_arithmetic.prog w K mg base) nmOf h := ⟨X, G, fun _ => rfl⟩
      rw [en]
      exact FnOk.less (fx_d (Γ := gam PySem.Challenge.rw_indicial_k01_arithmetic.prog w K mg base) F sc_law ⟨rfl, NS⟩ rfl (by decide) (bd_law ⟨rfl, NS⟩ (base_of N rfl c))) (spLaw_of (Γ := gam PySem.Challenge.rw_indicial_k01_arithmetic.prog w K mg base) pure_)
    · rw [en]
      exact He.glo_ok X G (c.of 41 rfl)
set_option Elab.async false
set_option linter.all false
set_option maxRecDepth 100000
set_option maxHeartbeats 1000000
open PySem L2
/-! ### the class Ratio -/
theorem num_0 : Rat.num 0 = 0 := rfl
def ofQ (q : Rat) : D := .obj 0 [.int q.num, .int (q.den : Int)]
def tq (q : Rat) : D := .tup [.int q.num, .int (q.den : Int)]
theorem gcd_split (n d : Int) (h : d ≠ 0) : (0 < d → n.fdiv ((Nat.gcd n.natAbs d.natAbs : Nat) : Int) = (Rat.divInt n d).num ∧ d.fdiv ((Nat.gcd n.natAbs d.natAbs : Nat) : Int) = ((Rat.divInt n d).den : Int)) ∧
    (d < 0 → n.fdiv (-((Nat.gcd n.natAbs d.natAbs : Nat) : Int)) = (Rat.divInt n d).num ∧ d.fdiv (-((Nat.gcd n.natAbs d.natAbs : Nat) : Int)) = ((Rat.divInt n d).den : Int)) ∧ ((Nat.gcd n.natAbs d.natAbs : Nat) : Int) ≠ 0 := by
  have g0 : 0 < Nat.gcd n.natAbs d.natAbs := Nat.gcd_pos_of_pos_right _ (Int.natAbs_pos.mpr h)
  have d1 : ((Nat.gcd n.natAbs d.natAbs : Nat) : Int) ∣ n := Int.ofNat_dvd_left.mpr (Nat.gcd_dvd_left _ _)
  have d2 : ((Nat.gcd n.natAbs d.natAbs : Nat) : Int) ∣ d := Int.ofNat_dvd_left.mpr (Nat.gcd_dvd_right _ _)
  have e : d.gcd n = Nat.gcd n.natAbs d.natAbs := Nat.gcd_comm _ _
  rw [Rat.num_divInt, Rat.den_divInt, if_neg h, e]
  generalize hg : Nat.gcd n.natAbs d.natAbs = g at *
  refine ⟨fun p => ⟨?_, ?_⟩, fun p => ⟨?_, ?_⟩, by omega⟩
  · rw [Int.fdiv_eq_ediv_of_dvd d1, Int.sign_eq_one_of_pos p, Int.one_mul]
  · rw [Int.fdiv_eq_ediv_of_dvd d2, Int.natCast_ediv, Int.natAbs_of_nonneg (Int.le_of_lt p)]
  · rw [Int.fdiv_eq_ediv_of_dvd (Int.neg_dvd.mpr d1), Int.sign_eq_neg_one_of_neg p, Int.ediv_neg, Int.neg_one_mul, Int.neg_ediv_of_dvd d1]
  · rw [Int.fdiv_eq_ediv_of_dvd (Int.neg_dvd.mpr d2), Int.ediv_neg, Int.natCast_ediv, ← Int.neg_ediv_of_dvd d2]
    congr 1
    omega
theorem init2 (n d : Int) : f_Ratio_init_2 [.int n, .int d] = if d = 0 then .exc ⟨21, []⟩ else .ok [.int (Rat.divInt n d).num, .int ((Rat.divInt n d).den : Int)] := by
  unfold f_Ratio_init_2 b_Ratio_init
  by_cases h : d = 0
  · (wp_walk using h)
  · obtain ⟨h1, h2, h3⟩ := gcd_split n d h
    rcases Int.lt_or_lt_of_ne h with p | p
    · obtain ⟨e1, e2⟩ := h2 p
      have np : ¬ 0 < d := by omega
      have g : ¬ -((Nat.gcd n.natAbs d.natAbs : Nat) : Int) = 0 := by omega
      (wp_walk using h, np, g, e1, e2)
    · obtain ⟨e1, e2⟩ := h1 p
      (wp_walk using h, p, h3, e1, e2)
theorem init2_ok (n d : Int) (h : d ≠ 0) : f_Ratio_init_2 [.int n, .int d] = .ok [.int (Rat.divInt n d).num, .int ((Rat.divInt n d).den : Int)] := by rw [init2, if_neg h]
theorem init1 (n : Int) : f_Ratio_init_1 [.int n] = .ok [.int n, .int 1] := by
  have e : f_Ratio_init_1 [.int n] = f_Ratio_init_2 [.int n, .int 1] := rfl
  rw [e, init2_ok n 1 (by decide)]
  have z : Rat.divInt n 1 = (n : Rat) := by simpa using Rat.num_divInt_den (n : Rat)
  rw [z]
  rfl
section
variable {a b : Rat} {n m : Nat}
theorem mulok_q {x y : Int} {n m : Nat} (hx : x.natAbs < 2 ^ n) (hy : y.natAbs < 2 ^ m) (h : n + m ≤ 100000000) : mulI (.int x) (.int y) = .ok (.int (x * y)) := by
  unfold mulI intD
  dsimp only
  rw [if_pos (mulok hx hy h)]
theorem mul_small {x y : Int} (hy : y.natAbs < 2 ^ 64) : mulI (.int x) (.int y) = .ok (.int (x * y)) := by
  unfold mulI intD
  dsimp only
  rw [if_pos (mulok1 hy)]
theorem Ratio_add_q (ha : Qb n a) (hb : Qb m b) (h : n + m ≤ 100000000) : f_Ratio_add [ofQ a, ofQ b] = .ok (ofQ (a + b)) := by
  unfold f_Ratio_add b_Ratio_add ofQ
  (wp_walk using mulok_q ha.num hb.den' h, mulok_q hb.num ha.den' (by omega), mulok_q ha.den' hb.den' h, init2_ok _ _ (Int.mul_ne_zero (den_ne a) (den_ne b)), add_q)
theorem Ratio_sub_q (ha : Qb n a) (hb : Qb m b) (h : n + m ≤ 100000000) : f_Ratio_sub [ofQ a, ofQ b] = .ok (ofQ (a - b)) := by
  unfold f_Ratio_sub b_Ratio_sub ofQ
  (wp_walk using mulok_q ha.num hb.den' h, mulok_q hb.num ha.den' (by omega), mulok_q ha.den' hb.den' h, init2_ok _ _ (Int.mul_ne_zero (den_ne a) (den_ne b)), sub_q)
theorem Ratio_mul_q (ha : Qb n a) (hb : Qb m b) (h : n + m ≤ 100000000) : f_Ratio_mul [ofQ a, ofQ b] = .ok (ofQ (a * b)) := by
  unfold f_Ratio_mul b_Ratio_mul ofQ
  (wp_walk using mulok_q ha.num hb.num h, mulok_q ha.den' hb.den' h, init2_ok _ _ (Int.mul_ne_zero (den_ne a) (den_ne b)), mul_q)
theorem Ratio_neg_q : f_Ratio_neg [ofQ a] = .ok (ofQ (-a)) := by
  unfold f_Ratio_neg b_Ratio_neg ofQ
  (wp_walk using init2_ok _ _ (den_ne a), neg_q)
theorem num_ne {a : Rat} (h : a ≠ 0) : a.num ≠ 0 := fun z => h (by rw [← Rat.num_divInt_den a, z, Rat.zero_divInt])
theorem Ratio_inverse_q (h : a ≠ 0) : f_Ratio_inverse [ofQ a] = .ok (ofQ a⁻¹) := by
  unfold f_Ratio_inverse b_Ratio_inverse ofQ
  (wp_walk using init2_ok _ _ (num_ne h), inv_q)
theorem Ratio_inverse_0 : f_Ratio_inverse [ofQ 0] = .exc ⟨21, []⟩ := by
  unfold f_Ratio_inverse b_Ratio_inverse ofQ
  (wp_walk using init2, num_0)
theorem Ratio_over_q (ha : Qb n a) (hb : Qb m b) (h : n + m ≤ 100000000) (z : b ≠ 0) : f_Ratio_over [ofQ a, ofQ b] = .ok (ofQ (a / b)) := by
  unfold f_Ratio_over b_Ratio_over ofQ
  (wp_walk using mulok_q ha.num hb.den' h, mulok_q ha.den' hb.num h, init2_ok _ _ (Int.mul_ne_zero (den_ne a) (num_ne z)), div_q)
theorem Ratio_over_0 (ha : Qb n a) (h : n ≤ 99999999) : f_Ratio_over [ofQ a, ofQ 0] = .exc ⟨21, []⟩ := by
  unfold f_Ratio_over b_Ratio_over ofQ
  have h2 : mulI (.int a.den) (.int 0) = .ok (.int (a.den * 0)) := mul_small (by decide)
  (wp_walk using mulok_q ha.num Qb.zero.den' (by omega), num_0, h2, init2, Int.mul_zero)
theorem Ratio_compare_q (ha : Qb n a) (hb : Qb m b) (h : n + m ≤ 100000000) : f_Ratio_compare [ofQ a, ofQ b] = .ok (.int ((if 0 < a.num * b.den - b.num * a.den then 1 else 0) - (if a.num * b.den - b.num * a.den < 0 then 1 else 0))) := by
  unfold f_Ratio_compare b_Ratio_compare ofQ
  (wp_walk using mulok_q ha.num hb.den' h, mulok_q hb.num ha.den' (by omega), decide_eq_true_eq)
theorem Ratio_sign_q : f_Ratio_sign [ofQ a] = .ok (.int ((if 0 < a.num then 1 else 0) - (if a.num < 0 then 1 else 0))) := by
  unfold f_Ratio_sign b_Ratio_sign ofQ
  (wp_walk using decide_eq_true_eq)
theorem Ratio_floor_q : f_Ratio_floor [ofQ a] = .ok (.int (a.num.fdiv a.den)) := by
  unfold f_Ratio_floor b_Ratio_floor ofQ
  have h := den_ne a
  (wp_walk using h)
theorem Ratio_is_zero_q : f_Ratio_is_zero [ofQ a] = .ok (.bl (decide (a.num = 0))) := by
  unfold f_Ratio_is_zero b_Ratio_is_zero ofQ
  wp_walk
theorem Ratio_whole_q : f_Ratio_whole [ofQ a] = .ok (.bl (decide ((a.den : Int) = 1))) := by
  unfold f_Ratio_whole b_Ratio_whole ofQ
  wp_walk
end
open PySem L2
/-! ### loops -/
/-- for over a range: what holds of the slots at each turn -/
theorem for_rng {g : D → Env → Option Env} {b : Env → Out} (I : Nat → Env → Prop) : ∀ (n i : Nat) (ρ : Env), I i ρ → (∀ j ρ, i ≤ j → j < i + n → I j ρ → ∃ ρ1, g (.int (j : Int)) ρ = some ρ1 ∧ ∃ ρ2, b ρ1 = .next ρ2 ∧ I (j + 1) ρ2) → ∃ ρ', S.forL g b ((List.range' i n).map fun (j : Nat) => D.int (j : Int)) ρ = .next ρ' ∧ I (i + n) ρ'
  | 0, i, ρ, h, _ => ⟨ρ, rfl, h⟩
  | n + 1, i, ρ, h, k => by
    obtain ⟨ρ1, h1, ρ2, h2, h3⟩ := k i ρ (Nat.le_refl i) (by omega) h
    obtain ⟨ρ', h4, h5⟩ := for_rng I n (i + 1) ρ2 h3 fun j ρ p q => k j ρ (by omega) (by omega)
    refine ⟨ρ', ?_, by rw [show i + (n + 1) = i + 1 + n by omega]; exact h5⟩
    rw [List.range'_succ, List.map_cons, S.forL, h1]
    dsimp only
    rw [h2]
    exact h4
theorem rngD_0 (n : Nat) : rngD 0 n = (List.range' 0 n).map fun (j : Nat) => D.int (j : Int) := by
  unfold rngD
  rw [List.range_eq_range']
  congr 1
  funext i
  rw [Int.zero_add]
theorem for_0 {g : D → Env → Option Env} {b : Env → Out} (I : Nat → Env → Prop) (n : Nat) (ρ : Env) (h : I 0 ρ) (k : ∀ j ρ, j < n → I j ρ → ∃ ρ1, g (.int (j : Int)) ρ = some ρ1 ∧ ∃ ρ2, b ρ1 = .next ρ2 ∧ I (j + 1) ρ2) : ∃ ρ', S.forL g b (rngD 0 n) ρ = .next ρ' ∧ I n ρ' := by
  rw [rngD_0]
  obtain ⟨ρ', h1, h2⟩ := for_rng I n 0 ρ h fun j ρ _ q => k j ρ (by omega)
  exact ⟨ρ', h1, by rw [Nat.zero_add] at h2; exact h2⟩
theorem forE_0 {it : Env → Res (List D)} {g : D → Env → Option Env} {b : Env → Out} (I : Nat → Env → Prop) {n : Nat} {ρ : Env} (hi : it ρ = .ok (rngD 0 n)) (h : I 0 ρ) (k : ∀ j ρ, j < n → I j ρ → ∃ ρ1, g (.int (j : Int)) ρ = some ρ1 ∧ ∃ ρ2, b ρ1 = .next ρ2 ∧ I (j + 1) ρ2) : ∃ ρ', S.forE it g b ρ = .next ρ' ∧ I n ρ' := by
  obtain ⟨ρ', h1, h2⟩ := for_0 (g := g) (b := b) I n ρ h k
  refine ⟨ρ', ?_, h2⟩
  unfold S.forE S.lift
  rw [hi]
  exact h1
/-- for over a list -/
theorem for_each {g : D → Env → Option Env} {b : Env → Out} (I : List D → Env → Prop) : ∀ (ds : List D) (ρ : Env), I ds ρ → (∀ d r ρ, I (d :: r) ρ → ∃ ρ1, g d ρ = some ρ1 ∧ ∃ ρ2, b ρ1 = .next ρ2 ∧ I r ρ2) → ∃ ρ', S.forL g b ds ρ = .next ρ' ∧ I [] ρ'
  | [], ρ, h, _ => ⟨ρ, rfl, h⟩
  | d :: r, ρ, h, k => by
    obtain ⟨ρ1, h1, ρ2, h2, h3⟩ := k d r ρ h
    obtain ⟨ρ', h4, h5⟩ := for_each I r ρ2 h3 k
    refine ⟨ρ', ?_, h5⟩
    rw [S.forL, h1]
    dsimp only
    rw [h2]
    exact h4
/-- while with a measure -/
theorem while_inv {c : Env → Res Bool} {b : Env → Out} (I : Env → Prop) (μ : Env → Nat) (k : ∀ ρ, I ρ → c ρ = .ok false ∨ (c ρ = .ok true ∧ ∃ ρ', b ρ = .next ρ' ∧ I ρ' ∧ μ ρ' < μ ρ)) : ∀ (n : Nat) (ρ : Env), I ρ → μ ρ < n → ∃ ρ', S.whileN c b n ρ = .next ρ' ∧ I ρ' ∧ c ρ' = .ok false
  | 0, ρ, _, h => absurd h (Nat.not_lt_zero _)
  | n + 1, ρ, i, h => by
    rcases k ρ i with e | ⟨e, ρ1, e1, i1, l⟩
    · refine ⟨ρ, ?_, i, e⟩
      rw [S.whileN, e]
      rfl
    · obtain ⟨ρ', h1, h2, h3⟩ := while_inv I μ k n ρ1 i1 (by omega)
      refine ⟨ρ', ?_, h2, h3⟩
      rw [S.whileN, e]
      show (match b ρ with | .next ρ' => S.whileN c b n ρ' | .cnt ρ' => S.whileN c b n ρ' | .brk ρ' => .next ρ' | o => o) = _
      rw [e1]
      exact h1
theorem seq_next {f g : Env → Out} {ρ ρ' : Env} (h : f ρ = .next ρ') : S.seq f g ρ = g ρ' := by unfold S.seq; rw [h]
theorem seq_ret {f g : Env → Out} {ρ : Env} {d : D} (h : f ρ = .ret d) : S.seq f g ρ = .ret d := by unfold S.seq; rw [h]
theorem seq_retF {f g : Env → Out} {ρ : Env} {d : List D} (h : f ρ = .retF d) : S.seq f g ρ = .retF d := by unfold S.seq; rw [h]
/-! ### the law's own helpers -/
theorem law_gcd_q (a b : Int) : f_law_gcd [.int a, .int b] = .ok (.int ((Nat.gcd a.natAbs b.natAbs : Nat) : Int)) := by
  have ab : ∀ x : Int, (if x < 0 then -x else x) = (x.natAbs : Int) := fun x => by split <;> omega
  obtain ⟨ρ', h1, ⟨x, y, z, e, g⟩, h3⟩ := while_inv (c := T.tst (E.op2 neS (E.var 3) (E.c (.int 0)))) (b := S.seq (S.set 4 (E.op2 modI (E.op1 intC (E.var 2)) (E.var 3))) (S.seq (S.set 2 (E.var 3)) (S.set 3 (E.var 4))))
    (fun ρ => ∃ (x y : Nat) (z : Cell), ρ = [.val (.int a), .val (.int b), .val (.int x), .val (.int y), z] ∧ Nat.gcd x y = Nat.gcd a.natAbs b.natAbs) (fun ρ => fuelI 3 ρ - 1) (fun ρ ⟨x, y, z, e, g⟩ => by
      subst e
      by_cases h : (y : Int) = 0
      · left
        (wp_walk using h)
      · right
        have y0 : 0 < y := by omega
        refine ⟨by (wp_walk using h), _, by (wp_walk using h); rfl, ⟨y, x % y, .val (.int ((x : Int).fmod y)), by rw [Int.fmod_eq_emod_of_nonneg _ (by omega)] <;> rfl, by rw [← g, Nat.gcd_comm x y, Nat.gcd_rec y x, Nat.gcd_comm]⟩, ?_⟩
        have := Nat.mod_lt x y0
        have e2 : ((x : Int).fmod y).natAbs = x % y := by
          rw [Int.fmod_eq_emod_of_nonneg _ (by omega)]
          omega
        simp only [fuelI, List.getElem?_cons_succ, List.getElem?_cons_zero]
        omega) (b.natAbs + 1) [.val (.int a), .val (.int b), .val (.int (a.natAbs : Int)), .val (.int (b.natAbs : Int)), .no] ⟨_, _, _, rfl, rfl⟩ (by simp only [fuelI, List.getElem?_cons_succ, List.getElem?_cons_zero]; omega)
  subst e
  have y0 : (y : Int) = 0 := by
    revert h3
    wp_walk
    simp
  have yz : y = 0 := by omega
  subst yz
  unfold f_law_gcd b_law_gcd
  have h1' : S.whil (fuelI 3) (T.tst (E.op2 neS (E.var 3) (E.c (.int 0)))) (S.seq (S.set 4 (E.op2 modI (E.op1 intC (E.var 2)) (E.var 3))) (S.seq (S.set 2 (E.var 3)) (S.set 3 (E.var 4)))) [.val (.int a), .val (.int b), .val (.int (a.natAbs : Int)), .val (.int (b.natAbs : Int)), .no] = _ := h1
  (wp_walk using ab, h1')
  rw [Nat.gcd_zero_right] at g
  rw [g]
theorem law_rat_q (n d : Int) (h : d ≠ 0) : f_law_rat [.int n, .int d] = .ok (tq (Rat.divInt n d)) := by
  obtain ⟨h1, h2, h3⟩ := gcd_split n d h
  unfold f_law_rat b_law_rat tq
  rcases Int.lt_or_lt_of_ne h with p | p
  · obtain ⟨e1, e2⟩ := h2 p
    have g : ¬ -((Nat.gcd n.natAbs d.natAbs : Nat) : Int) = 0 := by omega
    (wp_walk using law_gcd_q, p, g, e1, e2)
  · obtain ⟨e1, e2⟩ := h1 p
    have np : ¬ d < 0 := by omega
    (wp_walk using law_gcd_q, np, h3, e1, e2)
section
variable {a b : Rat} {n m : Nat}
theorem law_add_q (ha : Qb n a) (hb : Qb m b) (h : n + m ≤ 100000000) : f_law_add [tq a, tq b] = .ok (tq (a + b)) := by
  show f_law_add [.tup [.int a.num, .int a.den], .tup [.int b.num, .int b.den]] = _
  unfold f_law_add b_law_add
  (wp_walk using mulok_q ha.num hb.den' h, mulok_q hb.num ha.den' (by omega), mulok_q ha.den' hb.den' h, law_rat_q _ _ (Int.mul_ne_zero (den_ne a) (den_ne b)), add_q)
theorem law_mul_q (ha : Qb n a) (hb : Qb m b) (h : n + m ≤ 100000000) : f_law_mul [tq a, tq b] = .ok (tq (a * b)) := by
  show f_law_mul [.tup [.int a.num, .int a.den], .tup [.int b.num, .int b.den]] = _
  unfold f_law_mul b_law_mul
  (wp_walk using mulok_q ha.num hb.num h, mulok_q ha.den' hb.den' h, law_rat_q _ _ (Int.mul_ne_zero (den_ne a) (den_ne b)), mul_q)
theorem law_is_integer_q (i : Int) : f_law_is_integer [.int i] = .ok (.bl true) := by
  unfold f_law_is_integer b_law_is_integer
  (wp_walk using isi_int, isi_bool, Tst.f)
theorem law_pair_q : f_law_pair [ofQ a] = .ok (tq a) := by
  show f_law_pair [.obj 0 [.int a.num, .int a.den]] = .ok (.tup [.int a.num, .int a.den])
  have h1 : ¬ (a.den : Int) < 1 := by have := a.den_nz; omega
  have h2 : Nat.gcd a.num.natAbs (a.den : Int).natAbs = 1 := a.reduced
  have h3 : isi_Ratio (.obj 0 [.int a.num, .int a.den]) = some true := rfl
  have h4 : ((1 : Nat) : Int) = 1 := rfl
  unfold f_law_pair b_law_pair
  (wp_walk using h3, law_is_integer_q, h1, law_gcd_q, h2, h4)
theorem law_cell_q (ns : List Int) (i : Int) (hi : 0 ≤ i) : f_law_cell [scr ns, .int i] = .ok (.int (ns.getD i.toNat 0)) := by
  unfold f_law_cell b_law_cell scr
  by_cases h : i < (ns.length : Int)
  · have e : atI (ns.map D.int) i = some (.int (ns.getD i.toNat 0)) := by
      rw [atI_pos _ hi, List.getElem?_map, List.getD_eq_getElem?_getD, List.getElem?_eq_getElem (show i.toNat < ns.length by omega)]
      rfl
    (wp_walk using List.length_map, h, e)
  · have e : ns.getD i.toNat 0 = 0 := by
      rw [List.getD_eq_getElem?_getD, List.getElem?_eq_none (show ns.length ≤ i.toNat by omega)]
      rfl
    (wp_walk using List.length_map, h, e)
end
theorem law_draws_q (ns : List Int) (i c b : Int) (hi : 0 ≤ i ∧ i < 1000) (hc : 0 ≤ c ∧ c < 1000) (hb : 0 < b ∧ b < 1099511627776) : ∃ xs : List Int, xs.length = c.toNat ∧ (∀ x ∈ xs, 0 ≤ x ∧ x < b) ∧ f_law_draws [scr ns, .int i, .int c, .int b] = .ok (xs.map D.int) := by
  have b0 : ¬ b = 0 := by omega
  have hr1 : -(2 ^ 62) ≤ c := by omega
  have hr2 : c < 2 ^ 62 := by omega
  have md : ∀ x : Int, 0 ≤ x.fmod b ∧ x.fmod b < b := fun x => ⟨Int.fmod_nonneg_of_pos x hb.1, Int.fmod_lt_of_pos x hb.1⟩
  have grow : ∀ (xs : List Int) (x : Int), (∀ x ∈ xs, 0 ≤ x ∧ x < b) → ∀ z ∈ xs ++ [x.fmod b], 0 ≤ z ∧ z < b := fun xs x h z hz => by
    rcases List.mem_append.mp hz with q | q
    · exact h z q
    · rw [List.mem_singleton.mp q]
      exact md x
  unfold f_law_draws b_law_draws
  generalize hz : ns.getD i.toNat 0 = z
  by_cases h : 1000000000000000000 ≤ z
  · (wp_walk using law_cell_q ns i hi.1, hz, h, hr1, hr2)
    generalize hB : S.forL _ _ _ _ = o
    obtain ⟨ρ', e, y, xs, c6, e2, l, w⟩ : ∃ ρ', o = .next ρ' ∧ ∃ (y : Int) (xs : List Int) (c6 : Cell), ρ' = [.val (scr ns), .val (.int i), .val (.int c), .val (.int b), .val (.int y), .own (xs.map D.int), c6, .no, .no] ∧ xs.length = c.toNat ∧ ∀ x ∈ xs, 0 ≤ x ∧ x < b := by
      rw [← hB]
      refine for_0 (fun j ρ => ∃ (y : Int) (xs : List Int) (c6 : Cell), ρ = [.val (scr ns), .val (.int i), .val (.int c), .val (.int b), .val (.int y), .own (xs.map D.int), c6, .no, .no] ∧ xs.length = j ∧ ∀ x ∈ xs, 0 ≤ x ∧ x < b) _ _ ⟨z, [], .no, rfl, rfl, fun x hx => nomatch hx⟩ fun j ρ hj ⟨y, xs, c6, e, l, w⟩ => ?_
      subst e
      have lx : (xs.map D.int).length < 16777216 := by rw [List.length_map, l]; omega
      refine ⟨_, by wp_walk; rfl, _, by (wp_walk using b0, lx); rfl, ?_⟩
      exact ⟨y.fdiv b, xs ++ [y.fmod b], .val (.int j), by rw [List.map_append] <;> rfl, by rw [List.length_append, l] <;> rfl, grow xs y w⟩
    subst e
    subst e2
    exact ⟨xs, l, w, by wp_walk⟩
  · have m1 : mulI (.int 3) (.int i) = .ok (.int (3 * i)) := mul_small (by omega)
    (wp_walk using law_cell_q ns i hi.1, hz, h, hr1, hr2, m1)
    generalize hB : S.forL _ _ _ _ = o
    generalize z.fmod 2147483647 + 3 * i + 1 = y0 at hB
    obtain ⟨ρ', e, y, xs, c6, c8, e2, l, w⟩ : ∃ ρ', o = .next ρ' ∧ ∃ (y : Int) (xs : List Int) (c6 c8 : Cell), ρ' = [.val (scr ns), .val (.int i), .val (.int c), .val (.int b), .val (.int z), .own (xs.map D.int), c6, .val (.int y), c8] ∧ xs.length = c.toNat ∧ ∀ x ∈ xs, 0 ≤ x ∧ x < b := by
      rw [← hB]
      refine for_0 (fun j ρ => ∃ (y : Int) (xs : List Int) (c6 c8 : Cell), ρ = [.val (scr ns), .val (.int i), .val (.int c), .val (.int b), .val (.int z), .own (xs.map D.int), c6, .val (.int y), c8] ∧ xs.length = j ∧ ∀ x ∈ xs, 0 ≤ x ∧ x < b) _ _ ⟨y0, [], .no, .no, rfl, rfl, fun x hx => nomatch hx⟩ fun j ρ hj ⟨y, xs, c6, c8, e, l, w⟩ => ?_
      subst e
      have lx : (xs.map D.int).length < 16777216 := by rw [List.length_map, l]; omega
      have m2 : ∀ y : Int, mulI (.int y) (.int 48271) = .ok (.int (y * 48271)) := fun y => mul_small (by decide)
      have m3 : ∀ y : Int, mulI (.int y) (.int 69621) = .ok (.int (y * 69621)) := fun y => mul_small (by decide)
      have m4 : mulI (.int 11) (.int (j : Int)) = .ok (.int (11 * j)) := mul_small (by omega)
      have m5 : mulI (.int 5) (.int (j : Int)) = .ok (.int (5 * j)) := mul_small (by omega)
      refine ⟨_, by wp_walk; rfl, _, by (wp_walk using b0, lx, m2, m3, m4, m5); rfl, ?_⟩
      exact ⟨_, xs ++ [Int.fmod _ b], _, _, by rw [List.map_append] <;> rfl, by rw [List.length_append, l] <;> rfl, grow xs _ w⟩
    subst e
    subst e2
    exact ⟨xs, l, w, by wp_walk⟩
/-- the numbers of a script -/
structure Scr (ns : List Int) : Prop where
  len : ns.length ≤ 63
  bits : ∀ z ∈ ns, Builtin.Int.intBits z ≤ 1048576
theorem Scr.getD {ns : List Int} (S : Scr ns) (i : Nat) : (ns.getD i 0).natAbs < 2 ^ 1048576 := by
  rw [List.getD_eq_getElem?_getD]
  cases h : ns[i]? with
  | none => exact Nat.two_pow_pos _
  | some z => exact lt_of_bits (S.bits z (List.mem_of_getElem? h))
theorem law_drawn_q {ns : List Int} (S : Scr ns) (i : Int) (hi : 0 ≤ i ∧ i < 1000) : ∃ q : Rat, Qb 1048576 q ∧ f_law_drawn [scr ns, .int i] = .ok (tq q) := by
  obtain ⟨xs, hl, hx, e⟩ := law_draws_q ns i 4 121 hi (by omega) (by omega)
  match xs, hl, hx, e with
  | [x0, x1, x2, x3], _, hx, e =>
    have b1 := hx x1 (by simp)
    have d0 : ¬ (x2.fmod 40 + 1) = 0 := by have := Int.fmod_nonneg_of_pos x2 (show (0 : Int) < 40 by decide); omega
    have dl : (x2.fmod 40 + 1).natAbs < 2 ^ 1048576 := pow_mono (n := 6) (by have := Int.fmod_nonneg_of_pos x2 (show (0 : Int) < 40 by decide); have := Int.fmod_lt_of_pos x2 (show (0 : Int) < 40 by decide); omega) (by decide)
    have nl : (x1 - 60).natAbs < 2 ^ 1048576 := pow_mono (n := 7) (by omega) (by decide)
    unfold f_law_drawn b_law_drawn
    simp only [List.map_cons, List.map_nil] at e
    by_cases h : x0.fmod 4 = 3
    · refine ⟨_, Qb.divInt (S.getD i.toNat) dl d0, ?_⟩
      (wp_walk using e, h, law_cell_q ns i hi.1, law_rat_q _ _ d0)
    · refine ⟨_, Qb.divInt nl dl d0, ?_⟩
      (wp_walk using e, h, law_rat_q _ _ d0)
section
variable {a b : Rat} {n m : Nat}
/-- the k-th power -/
def pw (a : Rat) (k : Int) : Rat := if k < 0 then (a ^ k.natAbs)⁻¹ else a ^ k.natAbs
theorem inv_pow (a : Rat) : ∀ k : Nat, a⁻¹ ^ k = (a ^ k)⁻¹
  | 0 => by rw [Rat.pow_zero, Rat.pow_zero]; grind
  | k + 1 => by
    rw [Rat.pow_succ, Rat.pow_succ, inv_pow a k]
    grind
theorem pow_ne {a : Rat} (h : a ≠ 0) : ∀ k : Nat, a ^ k ≠ 0
  | 0 => by rw [Rat.pow_zero]; decide
  | k + 1 => by
    rw [Rat.pow_succ]
    have := pow_ne h k
    grind
theorem law_power_q (ha : Qb n a) (k : Int) (hk : -50 ≤ k ∧ k ≤ 50) (hn : n ≤ 1100000) (h : 0 ≤ k ∨ a ≠ 0) : f_law_power [tq a, .int k] = .ok (tq (pw a k)) := by
  have hr1 : -(2 ^ 62) ≤ (if k < 0 then -k else k) := by split <;> omega
  have hr2 : (if k < 0 then -k else k) < 2 ^ 62 := by split <;> omega
  have hr3 : (if k < 0 then -k else k).toNat = k.natAbs := by split <;> omega
  unfold f_law_power b_law_power
  (wp_walk using hr1, hr2, hr3)
  generalize hB : S.forL _ _ _ _ = o
  obtain ⟨ρ', e, c3, e2⟩ : ∃ ρ', o = .next ρ' ∧ ∃ (c3 : Cell), ρ' = [.val (tq a), .val (.int k), .val (tq (a ^ k.natAbs)), c3] := by
    rw [← hB]
    refine for_0 (fun j ρ => ∃ (c3 : Cell), ρ = [.val (tq a), .val (.int k), .val (tq (a ^ j)), c3]) _ _ ⟨.no, by rw [Rat.pow_zero] <;> rfl⟩ fun j ρ hj ⟨c3, e⟩ => ?_
    subst e
    have hb : n * j + 1 + n ≤ 100000000 := by
      have : n * j ≤ 1100000 * 50 := Nat.mul_le_mul (by omega) (by omega)
      omega
    exact ⟨_, by wp_walk; rfl, _, by (wp_walk using law_mul_q (ha.pow j) ha hb); rfl, _, by rw [Rat.pow_succ] <;> rfl⟩
  subst e
  subst e2
  unfold pw
  by_cases hk0 : k < 0
  · have z := pow_ne (h.resolve_left (by omega)) k.natAbs
    generalize a ^ k.natAbs = q at z
    have e3 : f_law_rat [.int q.den, .int q.num] = .ok (tq q⁻¹) := by rw [law_rat_q _ _ (num_ne z), inv_q]
    unfold tq at e3 ⊢
    (wp_walk using hk0, e3)
  · (wp_walk using hk0)
theorem pos_power (N : Nat) (ha : Qb n a) (k : Int) (hk : 0 ≤ k ∧ k ≤ 50) (hn : n ≤ 1100000) : r_Ratio_power (N + 1) [ofQ a, .int k] = .ok (ofQ (a ^ k.toNat)) := by
  have hr1 : -(2 ^ 62) ≤ k := by omega
  have hr2 : k < 2 ^ 62 := by omega
  have nk : ¬ k < 0 := by omega
  rw [r_Ratio_power]
  unfold b_Ratio_power
  (wp_walk using hr1, hr2, nk)
  generalize hB : S.forL _ _ _ _ = o
  obtain ⟨ρ', e, c4, e2⟩ : ∃ ρ', o = .next ρ' ∧ ∃ (c4 : Cell), ρ' = [.val (ofQ a), .val (.int k), .val (.int (a.num ^ k.toNat)), .val (.int ((a.den : Int) ^ k.toNat)), c4] := by
    rw [← hB]
    refine for_0 (fun j ρ => ∃ (c4 : Cell), ρ = [.val (ofQ a), .val (.int k), .val (.int (a.num ^ j)), .val (.int ((a.den : Int) ^ j)), c4]) _ _ ⟨.no, by rw [Int.pow_zero, Int.pow_zero]⟩ fun j ρ hj ⟨c4, e⟩ => ?_
    subst e
    have hb : n * j + 1 + n ≤ 100000000 := by
      have : n * j ≤ 1100000 * 50 := Nat.mul_le_mul (by omega) (by omega)
      omega
    have hp := ha.pow j
    have e1 : a.num ^ j = (a ^ j).num := (Rat.num_pow a j).symm
    have e2 : (a.den : Int) ^ j = ((a ^ j).den : Int) := by rw [Rat.den_pow, Int.natCast_pow]
    have p1 : mulI (.int (a.num ^ j)) (.int a.num) = .ok (.int (a.num ^ (j + 1))) := by rw [Int.pow_succ, e1]; exact mulok_q hp.num ha.num hb
    have p2 : mulI (.int ((a.den : Int) ^ j)) (.int a.den) = .ok (.int ((a.den : Int) ^ (j + 1))) := by rw [Int.pow_succ, e2]; exact mulok_q hp.den' ha.den' hb
    unfold ofQ
    exact ⟨_, by wp_walk; rfl, _, by (wp_walk using p1, p2); rfl, _, rfl⟩
  subst e
  subst e2
  have z : (a.den : Int) ^ k.toNat ≠ 0 := Int.pow_ne_zero (den_ne a)
  have e3 : Rat.divInt (a.num ^ k.toNat) ((a.den : Int) ^ k.toNat) = a ^ k.toNat := by
    have e2 : (a.den : Int) ^ k.toNat = ((a ^ k.toNat).den : Int) := by rw [Rat.den_pow, Int.natCast_pow]
    rw [← Rat.num_pow, e2, Rat.num_divInt_den]
  (wp_walk using init2_ok _ _ z, e3)
  rfl
theorem Ratio_power_q (ha : Qb n a) (k : Int) (hk : -50 ≤ k ∧ k ≤ 50) (hn : 1 ≤ n ∧ n ≤ 1100000) (h : 0 ≤ k ∨ a ≠ 0) : f_Ratio_power [ofQ a, .int k] = .ok (ofQ (pw a k)) := by
  unfold f_Ratio_power pw
  by_cases hk0 : k < 0
  · have z := h.resolve_left (by omega)
    have e := pos_power 0 (ha.inv hn.1) (-k) (by omega) hn.2
    rw [r_Ratio_power]
    unfold b_Ratio_power
    have e4 : (-k).toNat = k.natAbs := by omega
    have e5 := Ratio_inverse_q z
    rw [e4, inv_pow] at e
    unfold ofQ at e e5 ⊢
    (wp_walk using hk0, e5, e)
  · rw [pos_power 1 ha k (by omega) hn.2, if_neg hk0]
    congr 3
    omega
theorem init1_q (i : Int) : f_Ratio_init_1 [.int i] = .ok [.int i, .int 1] := init1 i
theorem total_q {N : Nat} : ∀ (qs : List Rat) (hq : ∀ q ∈ qs, Qb N q) (hN : (N + 1) * (qs.length + 1) ≤ 50000000) (t : D), t = .lst (qs.map ofQ) ∨ t = .tup (qs.map ofQ) → f_total [t] = .ok (ofQ (qs.foldl (· + ·) 0)) := by
  intro qs hq hN t ht
  have e0 : Z.seq (E.var 0) [.val t, .val (ofQ 0), .no] = .ok (qs.map ofQ) := by
    rcases ht with rfl | rfl <;> rfl
  have e1 : S.set 1 (E.app (objR 0 f_Ratio_init_1) (E.cons (E.c (.int 0)) E.nil)) [.val t, .no, .no] = .next [.val t, .val (ofQ 0), .no] := by
    (wp_walk using init1_q)
    rfl
  unfold f_total b_total runD
  rw [if_pos (by rfl)]
  show (match S.seq _ _ [.val t, .no, .no] with | .next ρ => Res.ok D.non | .ret d => .ok d | .retF ds => .ok (.lst ds) | .exc x ρ => .exc x | _ => .stuck) = _
  rw [seq_next e1]
  have e2 : ∀ (rs : List Rat) (s : Rat) (c : Cell) (M : Nat), (∀ q ∈ rs, Qb N q) → Qb M s → M + (N + 1) * (rs.length + 1) ≤ 100000000 →
      ∃ c', S.forL (S.tgt 2) (S.set 1 (E.own2 0 f_Ratio_add (E.var 1) (E.var 2))) (rs.map ofQ) [.val t, .val (ofQ s), c] = .next [.val t, .val (ofQ (rs.foldl (· + ·) s)), c'] := by
    intro rs
    induction rs with
    | nil => intro s c M _ _ _; exact ⟨c, rfl⟩
    | cons q rs ih =>
      intro s c M h1 h2 h3
      have hq := h1 q (by simp)
      have b0 : (N + 1) * (rs.length + 1 + 1) = (N + 1) * (rs.length + 1) + (N + 1) := Nat.mul_succ _ _
      rw [List.length_cons] at h3
      have ea := Ratio_add_q h2 hq (by omega)
      obtain ⟨c', e⟩ := ih (s + q) (.val (ofQ q)) (M + N + 1) (fun x hx => h1 x (by simp [hx])) (h2.add hq) (by omega)
      refine ⟨c', ?_⟩
      rw [List.foldl_cons, ← e]
      rw [List.map_cons, S.forL]
      have e5 : S.set 1 (E.own2 0 f_Ratio_add (E.var 1) (E.var 2)) [.val t, .val (ofQ s), .val (ofQ q)] = .next [.val t, .val (ofQ (s + q)), .val (ofQ q)] := by
        unfold ofQ at ea ⊢
        (wp_walk using ea)
      simp only [S.tgt, List.length_cons, List.length_nil, Nat.reduceAdd, Nat.reduceLT, reduceIte, List.set_cons_succ, List.set_cons_zero, e5]
  obtain ⟨c', e⟩ := e2 qs 0 .no 1 hq Qb.zero (by omega)
  have e3 : S.forE (Z.seq (E.var 0)) (S.tgt 2) (S.set 1 (E.own2 0 f_Ratio_add (E.var 1) (E.var 2))) [.val t, .val (ofQ 0), .no] = .next [.val t, .val (ofQ (qs.foldl (· + ·) 0)), c'] := by
    unfold S.forE
    rw [e0]
    exact e
  rw [seq_next e3]
  wp_walk
theorem law_no_inverse_q (ha : Qb n a) (h : n ≤ 99999999) : f_law_no_inverse [ofQ a] = .ok (.bl true) := by
  have e0 : ofQ 0 = .obj 0 [.int 0, .int 1] := rfl
  have h1 := Ratio_inverse_0
  have h2 := Ratio_over_0 ha h
  have h3 : f_Ratio_power [ofQ 0, .int (-3)] = .exc ⟨21, []⟩ := by
    unfold f_Ratio_power
    rw [r_Ratio_power]
    unfold b_Ratio_power
    rw [e0] at h1 ⊢
    (wp_walk using h1)
    rfl
  have hs : sub_ZeroDivisor 21 = some true := rfl
  rw [e0] at h1 h2 h3
  unfold ofQ at h2 ⊢
  unfold f_law_no_inverse b_law_no_inverse
  (wp_walk using init1_q, h1, h2, h3, hs, Int.reduceAdd, Int.reduceSub)
end
set_option Elab.async false
set_option linter.all false
set_option maxRecDepth 100000
set_option maxHeartbeats 1000000
open PySem L2
theorem eqv_ii (x y : Int) : PyData.eqv (.tuple [.int x, .int y]) (.tuple [.int x, .int y]) = true := by
  simp [PyData.eqv, PyData.eqvAll]
theorem neD_tq (q : Rat) : neD (tq q) (tq q) = .ok (.bl false) := by
  unfold neD eqWith tq
  simp only [toP, toPs, Option.map]
  rw [if_pos ⟨rfl, rfl⟩, eqv_ii]
  rfl
theorem eqD_tq (q : Rat) : eqD (tq q) (tq q) = .ok (.bl true) := by
  unfold eqD eqWith tq
  simp only [toP, toPs, Option.map]
  rw [if_pos ⟨rfl, rfl⟩, eqv_ii]
  rfl
section
variable {ns : List Int} {a b : Rat} {k : Int} {c9 : Cell}
abbrev en (ns : List Int) (a b : Rat) (k : Int) (c7 c8 c9 c10 c11 : Cell) : Env := [.val (scr ns), .val (tq a), .val (tq b), .val (.int k), .val (ofQ a), .val (ofQ b), .val (tq (-b)), c7, c8, c9, c10, c11]
theorem app_due {f : Env → Res D} {qs : List Rat} {q : Rat} {t : Cell} (h : f (en ns a b k (.own (qs.map tq)) t c9 .no .no) = .ok (tq q)) (hl : qs.length < 1000) :
    S.app 7 f (en ns a b k (.own (qs.map tq)) t c9 .no .no) = .next (en ns a b k (.own ((qs ++ [q]).map tq)) t c9 .no .no) := by
  have lx : (qs.map tq).length < 16777216 := by rw [List.length_map]; omega
  unfold en at h ⊢
  (wp_walk using h, lx, List.map_append)
theorem app_told {f : Env → Res D} {qs : List Rat} {q : Rat} {t : Cell} (h : f (en ns a b k t (.own (qs.map ofQ)) c9 .no .no) = .ok (ofQ q)) (hl : qs.length < 1000) :
    S.app 8 f (en ns a b k t (.own (qs.map ofQ)) c9 .no .no) = .next (en ns a b k t (.own ((qs ++ [q]).map ofQ)) c9 .no .no) := by
  have lx : (qs.map ofQ).length < 16777216 := by rw [List.length_map]; omega
  unfold en at h ⊢
  (wp_walk using h, lx, List.map_append)
end
theorem seq_ex {f g : Env → Out} {ρ : Env} {o : Out} (P : Env → Prop) (h : ∃ ρ', f ρ = .next ρ' ∧ P ρ') (k : ∀ ρ', P ρ' → g ρ' = o) : S.seq f g ρ = o := by
  obtain ⟨ρ', e, p⟩ := h
  rw [seq_next e]
  exact k ρ' p
theorem ite_t {c : Env → Res Bool} {f g : Env → Out} {ρ : Env} (h : c ρ = .ok true) : S.ite c f g ρ = f ρ := by
  unfold S.ite
  rw [h]
  rfl
theorem ite_f {c : Env → Res Bool} {f g : Env → Out} {ρ : Env} (h : c ρ = .ok false) : S.ite c f g ρ = g ρ := by
  unfold S.ite
  rw [h]
  rfl
theorem make_q (q : Rat) : f_Ratio_init_2 [.int q.num, .int q.den] = .ok [.int q.num, .int q.den] := by
  rw [init2_ok _ _ (den_ne q), Rat.num_divInt_den]
theorem check_loop (ns : List Int) (a b : Rat) (k : Int) (q3 : List Rat) (l3 : q3.length ≤ 9) : ∃ ρ', S.forE (E.rng1 (E.len (Z.own 7))) (S.tgt 9) (S.ite (T.tst (E.op2 neD (E.app f_law_pair (E.cons (E.ix (Z.own 8) (E.var 9)) E.nil)) (E.ix (Z.own 7) (E.var 9)))) (S.ret (E.c (.bl false))) S.skip) (en ns a b k (.own (q3.map tq)) (.own (q3.map ofQ)) .no .no .no) = .next ρ' ∧ ∃ c9 : Cell, ρ' = en ns a b k (.own (q3.map tq)) (.own (q3.map ofQ)) c9 .no .no := by
  have e0 : E.rng1 (E.len (Z.own 7)) (en ns a b k (.own (q3.map tq)) (.own (q3.map ofQ)) .no .no .no) = .ok (rngD 0 q3.length) := rng1_n (by (wp_walk using en, List.length_map)) (by omega)
  refine forE_0 (fun j ρ => ∃ c9 : Cell, ρ = en ns a b k (.own (q3.map tq)) (.own (q3.map ofQ)) c9 .no .no) e0 ⟨.no, rfl⟩ fun j ρ hj ⟨c9, e⟩ => ?_
  subst e
  have i1 : atI (q3.map tq) (j : Int) = some (tq q3[j]) := by rw [atI_n, List.getElem?_map, List.getElem?_eq_getElem hj] <;> rfl
  have i2 : atI (q3.map ofQ) (j : Int) = some (ofQ q3[j]) := by rw [atI_n, List.getElem?_map, List.getElem?_eq_getElem hj] <;> rfl
  exact ⟨_, by (wp_walk using en); rfl, en ns a b k (.own (q3.map tq)) (.own (q3.map ofQ)) (.val (.int j)) .no .no, by (wp_walk using en, i1, i2, law_pair_q, neD_tq), _, rfl⟩
theorem law_pure (ns : List Int) (h1 : ns.length ≤ 63) (h2 : ∀ z ∈ ns, Builtin.Int.intBits z ≤ 1048576) : f_law [scr ns] = .ok (.bl true) := by
  have S : Scr ns := ⟨h1, h2⟩
  obtain ⟨a, ba, ea⟩ := law_drawn_q S 0 (by omega)
  obtain ⟨b, bb, eb⟩ := law_drawn_q S 1 (by omega)
  obtain ⟨xs, hl, hx, ek⟩ := law_draws_q ns 2 1 11 (by omega) (by omega) (by omega)
  match xs, hl, hx, ek with
  | [x0], _, hx, ek =>
  have hk := hx x0 (by simp)
  simp only [List.map_cons, List.map_nil] at ek
  generalize hN : (1048576 : Nat) = N at ba bb
  have nb : tq (-b) = .tup [.int (-b.num), .int b.den] := rfl
  have bm := bb.neg
  unfold f_law runD
  rw [if_pos (show [scr ns].length = 1 from rfl)]
  suffices hs : b_law [.val (scr ns), .no, .no, .no, .no, .no, .no, .no, .no, .no, .no, .no] = .ret (.bl true) by
    show (match b_law [.val (scr ns), .no, .no, .no, .no, .no, .no, .no, .no, .no, .no, .no] with | .next ρ => Res.ok D.non | .ret d => .ok d | .retF ds => .ok (.lst ds) | .exc x ρ => .exc x | _ => .stuck) = _
    rw [hs]
  unfold b_law
  rw [seq_next (show _ = Out.next [.val (scr ns), .val (tq a), .no, .no, .no, .no, .no, .no, .no, .no, .no, .no] by (wp_walk using ea))]
  rw [seq_next (show _ = Out.next [.val (scr ns), .val (tq a), .val (tq b), .no, .no, .no, .no, .no, .no, .no, .no, .no] by (wp_walk using eb))]
  rw [seq_next (show _ = Out.next [.val (scr ns), .val (tq a), .val (tq b), .val (.int (x0 - 5)), .no, .no, .no, .no, .no, .no, .no, .no] by (wp_walk using ek))]
  generalize hk5 : x0 - 5 = k
  rw [seq_next (show _ = Out.next [.val (scr ns), .val (tq a), .val (tq b), .val (.int k), .val (ofQ a), .no, .no, .no, .no, .no, .no, .no] by (wp_walk using tq, ofQ, make_q))]
  rw [seq_next (show _ = Out.next [.val (scr ns), .val (tq a), .val (tq b), .val (.int k), .val (ofQ a), .val (ofQ b), .no, .no, .no, .no, .no, .no] by (wp_walk using tq, ofQ, make_q))]
  rw [seq_next (show _ = Out.next [.val (scr ns), .val (tq a), .val (tq b), .val (.int k), .val (ofQ a), .val (ofQ b), .val (tq (-b)), .no, .no, .no, .no, .no] by rw [nb]; (wp_walk using tq, ofQ))]
  have a1 : f_law_add [tq a, tq b] = .ok (tq (a + b)) := law_add_q ba bb (by omega)
  have a2 : f_law_add [tq a, tq (-b)] = .ok (tq (a + -b)) := law_add_q ba bm (by omega)
  have a3 : f_law_mul [tq a, tq b] = .ok (tq (a * b)) := law_mul_q ba bb (by omega)
  have a4 : f_Ratio_add [ofQ a, ofQ b] = .ok (ofQ (a + b)) := Ratio_add_q ba bb (by omega)
  have a5 : f_Ratio_sub [ofQ a, ofQ b] = .ok (ofQ (a + -b)) := by rw [← Rat.sub_eq_add_neg]; exact Ratio_sub_q ba bb (by omega)
  have a6 : f_Ratio_mul [ofQ a, ofQ b] = .ok (ofQ (a * b)) := Ratio_mul_q ba bb (by omega)
  have a7 : f_Ratio_neg [ofQ b] = .ok (ofQ (-b)) := Ratio_neg_q
  rw [seq_next (show _ = Out.next (en ns a b k (.own ([a + b, a + -b, a * b, -b].map tq)) .no .no .no .no) by (wp_walk using a1, a2, a3))]
  have b4 := a4
  have b5 := a5
  have b6 := a6
  have b7 := a7
  simp only [ofQ] at b4 b5 b6 b7
  rw [seq_next (show _ = Out.next (en ns a b k (.own ([a + b, a + -b, a * b, -b].map tq)) (.own ([a + b, a + -b, a * b, -b].map ofQ)) .no .no .no) by (wp_walk using ofQ, b4, b5, b6, b7) <;> rfl)]
  have l0 : [a + b, a + -b, a * b, -b].length = 4 := rfl
  generalize [a + b, a + -b, a * b, -b] = q0 at l0
  refine seq_ex (fun ρ => ∃ q1 : List Rat, q1.length ≤ 6 ∧ ρ = en ns a b k (.own (q1.map tq)) (.own (q1.map ofQ)) .no .no .no) ?_ fun ρ ⟨q1, l1, e⟩ => ?_
  · by_cases hb : b.num = 0
    · exact ⟨_, by (wp_walk using en, tq, hb), q0, by omega, rfl⟩
    · have nz : b ≠ 0 := fun z => hb (by rw [z]; rfl)
      have c1 : f_law_rat [.int b.den, .int b.num] = .ok (tq b⁻¹) := by rw [law_rat_q _ _ hb, inv_q]
      have c2 : f_law_rat [.int (a.num * b.den), .int (a.den * b.num)] = .ok (tq (a / b)) := by rw [law_rat_q _ _ (Int.mul_ne_zero (den_ne a) hb), div_q]
      have c3 : f_Ratio_inverse [ofQ b] = .ok (ofQ b⁻¹) := Ratio_inverse_q nz
      have c4 : f_Ratio_over [ofQ a, ofQ b] = .ok (ofQ (a / b)) := Ratio_over_q ba bb (by omega) nz
      have m1 : mulI (.int a.num) (.int b.den) = .ok (.int (a.num * b.den)) := mulok_q ba.num bb.den' (by omega)
      have m2 : mulI (.int a.den) (.int b.num) = .ok (.int (a.den * b.num)) := mulok_q ba.den' bb.num (by omega)
      simp only [tq] at c1 c2
      simp only [ofQ] at c3 c4
      rw [ite_t (by (wp_walk using en, tq, hb))]
      rw [seq_next (app_due (q := b⁻¹) (by (wp_walk using en, tq, c1)) (by omega))]
      rw [seq_next (app_told (q := b⁻¹) (by (wp_walk using en, ofQ, c3)) (by omega))]
      rw [seq_next (app_due (q := a / b) (by (wp_walk using en, tq, m1, m2, c2)) (by simp [l0]))]
      exact ⟨_, app_told (q := a / b) (by (wp_walk using en, ofQ, c4)) (by simp [l0]), _, by simp [l0], rfl⟩
  subst e
  refine seq_ex (fun ρ => ∃ q2 : List Rat, q2.length ≤ 7 ∧ ρ = en ns a b k (.own (q2.map tq)) (.own (q2.map ofQ)) .no .no .no) ?_ fun ρ ⟨q2, l2, e⟩ => ?_
  · by_cases hh : 0 ≤ k ∨ a.num ≠ 0
    · have hz : 0 ≤ k ∨ a ≠ 0 := hh.imp id fun z q => z (by rw [q]; rfl)
      have c1 : f_law_power [tq a, .int k] = .ok (tq (pw a k)) := law_power_q ba k (by omega) (by omega) hz
      have c2 : f_Ratio_power [ofQ a, .int k] = .ok (ofQ (pw a k)) := Ratio_power_q ba k (by omega) (by omega) hz
      simp only [ofQ] at c2
      rw [ite_t (by
        by_cases q : 0 ≤ k
        · (wp_walk using en, q)
        · have q2 := hh.resolve_left q
          (wp_walk using en, tq, q, q2))]
      rw [seq_next (app_due (q := pw a k) (by (wp_walk using en, c1)) (by omega))]
      exact ⟨_, app_told (q := pw a k) (by (wp_walk using en, ofQ, c2)) (by omega), _, by rw [List.length_append]; simp; omega, rfl⟩
    · have q1 : ¬ 0 ≤ k := fun z => hh (.inl z)
      have q2 : a.num = 0 := Decidable.byContradiction fun z => hh (.inr z)
      exact ⟨_, by (wp_walk using en, tq, q1, q2); rfl, _, by omega, rfl⟩
  subst e
  have d1 : f_law_add [tq (a + b), tq (a + -b)] = .ok (tq (a + b + (a + -b))) := law_add_q (ba.add bb) (ba.add bm) (by omega)
  have d2 : f_total [.lst [ofQ a, ofQ b, ofQ a, ofQ (-b)]] = .ok (ofQ (a + b + (a + -b))) := by
    have z := total_q (N := N) [a, b, a, -b] (by simp [ba, bb, bm]) (by simp; omega) _ (.inl rfl)
    rw [show [a, b, a, -b].foldl (· + ·) 0 = a + b + (a + -b) by simp; grind] at z
    exact z
  have d3 : f_total [.tup []] = .ok (ofQ 0) := total_q (N := N) [] (by simp) (by simp; omega) _ (.inr rfl)
  rw [seq_next (app_due (q := a + b + (a + -b)) (by (wp_walk using en, a1, a2, d1)) (by omega))]
  rw [seq_next (app_told (q := a + b + (a + -b)) (by
    simp only [ofQ] at d2 b7 ⊢
    (wp_walk using en, ofQ, b7, d2)) (by omega))]
  rw [seq_next (app_due (q := 0) (by (wp_walk using en) <;> rfl) (by rw [List.length_append]; simp; omega))]
  rw [seq_next (app_told (q := 0) (by (wp_walk using en, d3)) (by rw [List.length_append]; simp; omega))]
  have l3 : (q2 ++ [a + b + (a + -b)] ++ [0]).length ≤ 9 := by simp; omega
  generalize q2 ++ [a + b + (a + -b)] ++ [0] = q3 at l3
  refine seq_ex (fun ρ => ∃ c9 : Cell, ρ = en ns a b k (.own (q3.map tq)) (.own (q3.map ofQ)) c9 .no .no) ?_ fun ρ ⟨c9, e⟩ => ?_
  · exact check_loop _ _ _ _ _ l3
  subst e
  have m1 : mulI (.int a.num) (.int b.den) = .ok (.int (a.num * b.den)) := mulok_q ba.num bb.den' (by omega)
  have m2 : mulI (.int b.num) (.int a.den) = .ok (.int (b.num * a.den)) := mulok_q bb.num ba.den' (by omega)
  rw [seq_next (show _ = Out.next (en ns a b k (.own (q3.map tq)) (.own (q3.map ofQ)) c9 (.val (.int (a.num * b.den - b.num * a.den))) .no) by (wp_walk using en, tq, m1, m2))]
  have f1 := Ratio_compare_q ba bb (by omega)
  have f2 := Ratio_sign_q (a := a)
  have f3 := Ratio_floor_q (a := a)
  have f4 := Ratio_is_zero_q (a := a)
  have f5 := Ratio_whole_q (a := a)
  simp only [ofQ] at f1 f2 f3 f4 f5
  rw [seq_next (show _ = Out.next (en ns a b k (.own (q3.map tq)) (.own (q3.map ofQ)) c9 (.val (.int (a.num * b.den - b.num * a.den))) .no) by
    rw [ite_f (by (wp_walk using en, tq, ofQ, f1, f2, decide_eq_true_eq))]
    rfl)]
  rw [seq_next (show _ = Out.next (en ns a b k (.own (q3.map tq)) (.own (q3.map ofQ)) c9 (.val (.int (a.num * b.den - b.num * a.den))) (.val (.int (a.num.fdiv a.den)))) by (wp_walk using en, ofQ, f3))]
  have dpos : 0 < (a.den : Int) := by have := a.den_nz; omega
  have lo : a.num.fdiv a.den = a.num / a.den := Int.fdiv_eq_ediv_of_nonneg _ (by omega)
  have lb : (a.num.fdiv a.den).natAbs < 2 ^ N := by rw [lo]; exact Nat.lt_of_le_of_lt (natAbs_ediv_le _ _) ba.num
  have lb2 : (a.num.fdiv a.den + 1).natAbs < 2 ^ (N + 1) := add_lt lb (Nat.one_lt_two_pow (by omega))
  have m3 : mulI (.int (a.num.fdiv a.den)) (.int a.den) = .ok (.int (a.num.fdiv a.den * a.den)) := mulok_q lb ba.den' (by omega)
  have m4 : mulI (.int (a.num.fdiv a.den + 1)) (.int a.den) = .ok (.int ((a.num.fdiv a.den + 1) * a.den)) := mulok_q lb2 ba.den' (by omega)
  have g1 : a.num.fdiv a.den * a.den ≤ a.num := by rw [lo]; exact Int.ediv_mul_le _ (by omega)
  have g2 : a.num < (a.num.fdiv a.den + 1) * a.den := by rw [lo]; exact Int.lt_ediv_add_one_mul_self _ dpos
  rw [seq_next (show _ = Out.next (en ns a b k (.own (q3.map tq)) (.own (q3.map ofQ)) c9 (.val (.int (a.num * b.den - b.num * a.den))) (.val (.int (a.num.fdiv a.den)))) by
    rw [ite_f (by (wp_walk using en, tq, law_is_integer_q, m3, m4, g1, g2))]
    rfl)]
  rw [seq_next (show _ = Out.next (en ns a b k (.own (q3.map tq)) (.own (q3.map ofQ)) c9 (.val (.int (a.num * b.den - b.num * a.den))) (.val (.int (a.num.fdiv a.den)))) by
    rw [ite_f (by (wp_walk using en, tq, ofQ, f4, f5, isi_bool, Tst.f, beq_self_eq_true))]
    rfl)]
  (wp_walk using en, law_pair_q, eqD_tq, law_no_inverse_q ba (by omega))
theorem law_holds : PySem.Challenge.rw_indicial_k01_arithmetic.Holds := law_kept law_pure
end De
theorem PySem.Challenge.cw_indicial_k01_arithmetic_holds : PySem.Challenge.rw_indicial_k01_arithmetic.Holds :=
  De.law_holds
