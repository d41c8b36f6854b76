import PyProof.Rows.All
import Wide.All
import OpenK.AllK
import Wide.FinOn
import HandS.ForMost
import HandS.Exc
import HandS.TryMany
import HandS.WordsExc
import HandS.Lambda
import HandS.CallSlots
import HandS.TupAny
import HandS.Text
import KE.GoesEnum
import HandS.HeadHook4
import HandS.HeadEnd
import HandS.Head2
import PySem.Challenge.RW_blazonhall_k20_shapes
set_option Elab.async false
set_option linter.all false
set_option maxRecDepth 100000
set_option maxHeartbeats 0
/-! Own layer, part A: clean values, the clean heap, how they stand for the values of the hand layer. -/
namespace Bl
open PySem PySem.Spec PyProof.Rows L2

/-- a clean value: tuples, frozen lists, dicts, instances are trees; wtp: a tuple of the written part; wdc: the i-th written dict; ref n: the n-th object of the clean heap -/
inductive CV where
  | non | bl (b : Bool) | int (i : Int) | str (s : List Nat)
  | tup (xs : List CV) | wtp (xs : List CV) | wdc (i : Nat) | lst (xs : List CV) | dct (t : Bool) (kvs : List (CV × CV)) | ins (c : Nat) (fs : List (Nat × CV)) | ref (n : Nat)
/-- a clean object -/
inductive CO where
  | lst (xs : List CV) | dic (t : Bool) (kvs : List (CV × CV)) | ins (c : Nat) (fs : List (Nat × CV))
/-- the clean heap: the floor, the objects, oldest first -/
structure Hc where
  fl : Nat
  os : List CO
inductive R (α : Type) where
  | ok (a : α) (h : Hc) | exc (c : Nat) (fs : List (Nat × CV)) (h : Hc) | stuck
def R.bind {α β : Type} (r : R α) (f : α → Hc → R β) : R β := match r with
  | .ok a h => f a h
  | .exc c fs h => .exc c fs h
  | .stuck => .stuck
abbrev En := List (Option CV)

/-- what is fixed: the written part, the classes' addresses, the fields' names -/
structure Gx where
  K : PySem.W.Frag
  cl : Nat → Addr
  fn : Nat → Str
  wd : Nat → Addr
  T : List (Addr × Str)

def Own (ρ : Nat → Addr) (N : Nat) (a : Addr) : Prop := ∃ i, i < N ∧ ρ i = a
/-- read, and not one of the clean heap's -/
def RdU (ρ : Nat → Addr) (N : Nat) (H : Hp) (a : Addr) (u : HO) : Prop := ¬ Own ρ N a ∧ Rd H a u
def insU (ρ : Nat → Addr) (N : Nat) (H : Hp) (a : Addr) (u : HO) : Prop := ¬ Own ρ N a ∧ H a = some u
def WrL (K : PySem.W.Frag) (a : Addr) (xs : List V) : Prop := ∃ (o : Obj) (its : Array Value) (n : Nat), K.lookup a = some o ∧ o.cls = .type "list" ∧ o.dict = none ∧ o.data = .seq its n ∧ its.size ≤ sizeLine ∧ Vals xs its.toList
def WrT (K : PySem.W.Frag) (a : Addr) (xs : List V) : Prop := ∃ (o : Obj) (its : Array Value) (n : Nat), K.lookup a = some o ∧ o.cls = .type "tuple" ∧ o.data = .seq its n ∧ its.size ≤ sizeLine ∧ Vals xs its.toList

def sOf (s : List Nat) : Str := ⟨s.toArray⟩
def keyC : CV → Option Key
  | .int i => some (.inl i)
  | .str s => some (.inr (sOf s))
  | _ => none
def keysC : List CV → Option (List Key)
  | [] => some []
  | k :: r => match keyC k, keysC r with
    | some a, some b => some (a :: b)
    | _, _ => none
def keyT : CV → Option (List Key)
  | .tup ks => keysC ks
  | _ => none

mutual
/-- v stands for the clean value; m: refs are below it -/
def Rep (Γ : Gx) (ρ : Nat → Addr) (N : Nat) (H : Hp) (m : Nat) : CV → V → Prop
  | .non, v => v = .non
  | .bl b, v => v = .bl b
  | .int i, v => v = .int i
  | .str s, v => v = .str (sOf s)
  | .ref n, v => n < m ∧ v = .ref (ρ n)
  | .tup xs, v => ∃ a vs, v = .ref a ∧ insU ρ N H a (.tup vs) ∧ Reps Γ ρ N H m xs vs
  | .wtp xs, v => ∃ a vs, v = .ref a ∧ WrT Γ.K a vs ∧ Reps Γ ρ N H 0 xs vs
  | .wdc i, v => v = .ref (Γ.wd i)
  | .lst xs, v => ∃ a vs, v = .ref a ∧ (RdU ρ N H a (.lst vs) ∨ WrL Γ.K a vs) ∧ Reps Γ ρ N H 0 xs vs
  | .dct false kvs, v => ∃ a ds, v = .ref a ∧ RdU ρ N H a (.dK ds) ∧ RepK Γ ρ N H 0 kvs ds
  | .dct true kvs, v => ∃ a ds, v = .ref a ∧ RdU ρ N H a (.dT ds) ∧ RepT Γ ρ N H 0 kvs ds
  | .ins c fs, v => ∃ a dx ds, v = .ref a ∧ insU ρ N H a (.ins (Γ.cl c) dx ds) ∧ RepF Γ ρ N H 0 fs ds
def Reps (Γ : Gx) (ρ : Nat → Addr) (N : Nat) (H : Hp) (m : Nat) : List CV → List V → Prop
  | [], vs => vs = []
  | x :: xs, vs => ∃ v r, vs = v :: r ∧ Rep Γ ρ N H m x v ∧ Reps Γ ρ N H m xs r
def RepK (Γ : Gx) (ρ : Nat → Addr) (N : Nat) (H : Hp) (m : Nat) : List (CV × CV) → List (Key × V) → Prop
  | [], ds => ds = []
  | (k, x) :: r, ds => ∃ k' v r', ds = (k', v) :: r' ∧ keyC k = some k' ∧ Rep Γ ρ N H m x v ∧ RepK Γ ρ N H m r r'
def RepT (Γ : Gx) (ρ : Nat → Addr) (N : Nat) (H : Hp) (m : Nat) : List (CV × CV) → List (List Key × V) → Prop
  | [], ds => ds = []
  | (k, x) :: r, ds => ∃ k' v r', ds = (k', v) :: r' ∧ keyT k = some k' ∧ Rep Γ ρ N H m x v ∧ RepT Γ ρ N H m r r'
def RepF (Γ : Gx) (ρ : Nat → Addr) (N : Nat) (H : Hp) (m : Nat) : List (Nat × CV) → List (Str × V) → Prop
  | [], ds => ds = []
  | (k, x) :: r, ds => ∃ v r', ds = (Γ.fn k, v) :: r' ∧ Rep Γ ρ N H m x v ∧ RepF Γ ρ N H m r r'
end

/-- kept as it stands where it is not the clean heap's: all -/
def stab (_ : HO) : Bool := true
/-- from one state to a later one -/
structure Step (ρ : Nat → Addr) (N : Nat) (H : Hp) (ρ' : Nat → Addr) (N' : Nat) (H' : Hp) : Prop where
  le : N ≤ N'
  agree : ∀ i, i < N → ρ' i = ρ i
  keep : ∀ a u, RdU ρ N H a u → RdU ρ' N' H' a u
  keepI : ∀ a u, stab u = true → insU ρ N H a u → insU ρ' N' H' a u
theorem Step.refl {ρ N H} : Step ρ N H ρ N H := ⟨Nat.le_refl _, fun _ _ => rfl, fun _ _ h => h, fun _ _ _ h => h⟩
theorem Step.trans {ρ N H ρ1 N1 H1 ρ2 N2 H2} (a : Step ρ N H ρ1 N1 H1) (b : Step ρ1 N1 H1 ρ2 N2 H2) : Step ρ N H ρ2 N2 H2 :=
  ⟨Nat.le_trans a.le b.le, fun i h => (b.agree i (Nat.lt_of_lt_of_le h a.le)).trans (a.agree i h), fun x u h => b.keep x u (a.keep x u h), fun x u q h => b.keepI x u q (a.keepI x u q h)⟩

section
variable {Γ : Gx} {ρ ρ' : Nat → Addr} {N N' : Nat} {H H' : Hp}
mutual
theorem Rep.mono (st : Step ρ N H ρ' N' H') {m m' : Nat} (hm : m ≤ N) (hm' : m ≤ m') : ∀ (x : CV) {v : V}, Rep Γ ρ N H m x v → Rep Γ ρ' N' H' m' x v
  | .non, v, h => by unfold Rep at h ⊢; exact h
  | .bl b, v, h => by unfold Rep at h ⊢; exact h
  | .int i, v, h => by unfold Rep at h ⊢; exact h
  | .str s, v, h => by unfold Rep at h ⊢; exact h
  | .ref n, v, h => by
    unfold Rep at h ⊢
    exact ⟨Nat.lt_of_lt_of_le h.1 hm', by rw [st.agree n (Nat.lt_of_lt_of_le h.1 hm)]; exact h.2⟩
  | .tup xs, v, h => by
    unfold Rep at h ⊢
    obtain ⟨a, vs, e, r, q⟩ := h
    exact ⟨a, vs, e, st.keepI _ _ rfl r, Reps.mono st hm hm' xs q⟩
  | .wtp xs, v, h => by
    unfold Rep at h ⊢
    obtain ⟨a, vs, e, r, q⟩ := h
    exact ⟨a, vs, e, r, Reps.mono st (Nat.zero_le _) (Nat.le_refl 0) xs q⟩
  | .wdc i, v, h => by unfold Rep at h ⊢; exact h
  | .lst xs, v, h => by
    unfold Rep at h ⊢
    obtain ⟨a, vs, e, r, q⟩ := h
    exact ⟨a, vs, e, r.imp (st.keep _ _) id, Reps.mono st (Nat.zero_le _) (Nat.le_refl 0) xs q⟩
  | .dct false kvs, v, h => by
    unfold Rep at h ⊢
    obtain ⟨a, ds, e, r, q⟩ := h
    exact ⟨a, ds, e, st.keep _ _ r, RepK.mono st (Nat.zero_le _) (Nat.le_refl 0) kvs q⟩
  | .dct true kvs, v, h => by
    unfold Rep at h ⊢
    obtain ⟨a, ds, e, r, q⟩ := h
    exact ⟨a, ds, e, st.keep _ _ r, RepT.mono st (Nat.zero_le _) (Nat.le_refl 0) kvs q⟩
  | .ins c fs, v, h => by
    unfold Rep at h ⊢
    obtain ⟨a, dx, ds, e, r, q⟩ := h
    exact ⟨a, dx, ds, e, st.keepI _ _ rfl r, RepF.mono st (Nat.zero_le _) (Nat.le_refl 0) fs q⟩
theorem Reps.mono (st : Step ρ N H ρ' N' H') {m m' : Nat} (hm : m ≤ N) (hm' : m ≤ m') : ∀ (xs : List CV) {vs : List V}, Reps Γ ρ N H m xs vs → Reps Γ ρ' N' H' m' xs vs
  | [], vs, h => by unfold Reps at h ⊢; exact h
  | x :: xs, vs, h => by
    unfold Reps at h ⊢
    obtain ⟨v, r, e, h1, h2⟩ := h
    exact ⟨v, r, e, Rep.mono st hm hm' x h1, Reps.mono st hm hm' xs h2⟩
theorem RepK.mono (st : Step ρ N H ρ' N' H') {m m' : Nat} (hm : m ≤ N) (hm' : m ≤ m') : ∀ (xs : List (CV × CV)) {vs : List (Key × V)}, RepK Γ ρ N H m xs vs → RepK Γ ρ' N' H' m' xs vs
  | [], vs, h => by unfold RepK at h ⊢; exact h
  | (k, x) :: xs, vs, h => by
    unfold RepK at h ⊢
    obtain ⟨k', v, r, e, hk, h1, h2⟩ := h
    exact ⟨k', v, r, e, hk, Rep.mono st hm hm' x h1, RepK.mono st hm hm' xs h2⟩
theorem RepT.mono (st : Step ρ N H ρ' N' H') {m m' : Nat} (hm : m ≤ N) (hm' : m ≤ m') : ∀ (xs : List (CV × CV)) {vs : List (List Key × V)}, RepT Γ ρ N H m xs vs → RepT Γ ρ' N' H' m' xs vs
  | [], vs, h => by unfold RepT at h ⊢; exact h
  | (k, x) :: xs, vs, h => by
    unfold RepT at h ⊢
    obtain ⟨k', v, r, e, hk, h1, h2⟩ := h
    exact ⟨k', v, r, e, hk, Rep.mono st hm hm' x h1, RepT.mono st hm hm' xs h2⟩
theorem RepF.mono (st : Step ρ N H ρ' N' H') {m m' : Nat} (hm : m ≤ N) (hm' : m ≤ m') : ∀ (xs : List (Nat × CV)) {vs : List (Str × V)}, RepF Γ ρ N H m xs vs → RepF Γ ρ' N' H' m' xs vs
  | [], vs, h => by unfold RepF at h ⊢; exact h
  | (k, x) :: xs, vs, h => by
    unfold RepF at h ⊢
    obtain ⟨v, r, e, h1, h2⟩ := h
    exact ⟨v, r, e, Rep.mono st hm hm' x h1, RepF.mono st hm hm' xs h2⟩
end
end
end Bl

/-! Own layer, part B: limits, freezing, the clean heap's relation. -/
namespace Bl
open PySem PySem.Spec PyProof.Rows L2

mutual
def limV (f : Nat) : CV → Bool
  | .ref n => decide (n < f)
  | .tup xs => limL f xs
  | _ => true
def limL (f : Nat) : List CV → Bool
  | [] => true
  | x :: r => limV f x && limL f r
end
def limK (f : Nat) : List (CV × CV) → Bool
  | [] => true
  | x :: r => limV f x.2 && limK f r
def limF (f : Nat) : List (Nat × CV) → Bool
  | [] => true
  | x :: r => limV f x.2 && limF f r
def limO (f : Nat) : CO → Bool
  | .lst xs => limL f xs
  | .dic _ kvs => limK f kvs
  | .ins _ fs => limF f fs

section
variable {Γ : Gx} {ρ : Nat → Addr} {N : Nat} {H : Hp} {f : Nat}
theorem Own.mono {N' : Nat} {a : Addr} (h : Own ρ N a) (le : N ≤ N') : Own ρ N' a := let ⟨i, h1, h2⟩ := h; ⟨i, Nat.lt_of_lt_of_le h1 le, h2⟩
theorem RdU.trunc (hf : f ≤ N) {a : Addr} {u : HO} (h : RdU ρ N H a u) : RdU ρ f H a u := ⟨fun o => h.1 (o.mono hf), h.2⟩
theorem insU.trunc (hf : f ≤ N) {a : Addr} {u : HO} (h : insU ρ N H a u) : insU ρ f H a u := ⟨fun o => h.1 (o.mono hf), h.2⟩
mutual
theorem Rep.trunc (hf : f ≤ N) {m m' : Nat} : ∀ (x : CV) {v : V}, (m = m' ∨ limV m' x = true) → Rep Γ ρ N H m x v → Rep Γ ρ f H m' x v
  | .non, v, _, h => by unfold Rep at h ⊢; exact h
  | .bl b, v, _, h => by unfold Rep at h ⊢; exact h
  | .int i, v, _, h => by unfold Rep at h ⊢; exact h
  | .str s, v, _, h => by unfold Rep at h ⊢; exact h
  | .ref n, v, l, h => by
    unfold Rep at h ⊢
    refine ⟨?_, h.2⟩
    rcases l with l | l
    · rw [← l]; exact h.1
    · unfold limV at l; exact of_decide_eq_true l
  | .tup xs, v, l, h => by
    unfold Rep at h ⊢
    obtain ⟨a, vs, e, r, q⟩ := h
    exact ⟨a, vs, e, r.trunc hf, Reps.trunc hf xs (l.imp id fun z => by unfold limV at z; exact z) q⟩
  | .wtp xs, v, _, h => by
    unfold Rep at h ⊢
    obtain ⟨a, vs, e, r, q⟩ := h
    exact ⟨a, vs, e, r, Reps.trunc hf xs (.inl rfl) q⟩
  | .wdc i, v, _, h => by unfold Rep at h ⊢; exact h
  | .lst xs, v, _, h => by
    unfold Rep at h ⊢
    obtain ⟨a, vs, e, r, q⟩ := h
    exact ⟨a, vs, e, r.imp (RdU.trunc hf) id, Reps.trunc hf xs (.inl rfl) q⟩
  | .dct false kvs, v, _, h => by
    unfold Rep at h ⊢
    obtain ⟨a, ds, e, r, q⟩ := h
    exact ⟨a, ds, e, r.trunc hf, RepK.trunc hf kvs (.inl rfl) q⟩
  | .dct true kvs, v, _, h => by
    unfold Rep at h ⊢
    obtain ⟨a, ds, e, r, q⟩ := h
    exact ⟨a, ds, e, r.trunc hf, RepT.trunc hf kvs (.inl rfl) q⟩
  | .ins c fs, v, _, h => by
    unfold Rep at h ⊢
    obtain ⟨a, dx, ds, e, r, q⟩ := h
    exact ⟨a, dx, ds, e, r.trunc hf, RepF.trunc hf fs (.inl rfl) q⟩
theorem Reps.trunc (hf : f ≤ N) {m m' : Nat} : ∀ (xs : List CV) {vs : List V}, (m = m' ∨ limL m' xs = true) → Reps Γ ρ N H m xs vs → Reps Γ ρ f H m' xs vs
  | [], vs, _, h => by unfold Reps at h ⊢; exact h
  | x :: xs, vs, l, h => by
    unfold Reps at h ⊢
    obtain ⟨v, r, e, h1, h2⟩ := h
    refine ⟨v, r, e, Rep.trunc hf x (l.imp id fun z => ?_) h1, Reps.trunc hf xs (l.imp id fun z => ?_) h2⟩ <;>
      (unfold limL at z; rw [Bool.and_eq_true] at z)
    · exact z.1
    · exact z.2
theorem RepK.trunc (hf : f ≤ N) {m m' : Nat} : ∀ (xs : List (CV × CV)) {vs : List (Key × V)}, (m = m' ∨ limK m' xs = true) → RepK Γ ρ N H m xs vs → RepK Γ ρ f H m' xs vs
  | [], vs, _, h => by unfold RepK at h ⊢; exact h
  | (k, x) :: xs, vs, l, h => by
    unfold RepK at h ⊢
    obtain ⟨k', v, r, e, hk, h1, h2⟩ := h
    refine ⟨k', v, r, e, hk, Rep.trunc hf x (l.imp id fun z => ?_) h1, RepK.trunc hf xs (l.imp id fun z => ?_) h2⟩ <;>
      (unfold limK at z; rw [Bool.and_eq_true] at z)
    · exact z.1
    · exact z.2
theorem RepT.trunc (hf : f ≤ N) {m m' : Nat} : ∀ (xs : List (CV × CV)) {vs : List (List Key × V)}, (m = m' ∨ limK m' xs = true) → RepT Γ ρ N H m xs vs → RepT Γ ρ f H m' xs vs
  | [], vs, _, h => by unfold RepT at h ⊢; exact h
  | (k, x) :: xs, vs, l, h => by
    unfold RepT at h ⊢
    obtain ⟨k', v, r, e, hk, h1, h2⟩ := h
    refine ⟨k', v, r, e, hk, Rep.trunc hf x (l.imp id fun z => ?_) h1, RepT.trunc hf xs (l.imp id fun z => ?_) h2⟩ <;>
      (unfold limK at z; rw [Bool.and_eq_true] at z)
    · exact z.1
    · exact z.2
theorem RepF.trunc (hf : f ≤ N) {m m' : Nat} : ∀ (xs : List (Nat × CV)) {vs : List (Str × V)}, (m = m' ∨ limF m' xs = true) → RepF Γ ρ N H m xs vs → RepF Γ ρ f H m' xs vs
  | [], vs, _, h => by unfold RepF at h ⊢; exact h
  | (k, x) :: xs, vs, l, h => by
    unfold RepF at h ⊢
    obtain ⟨v, r, e, h1, h2⟩ := h
    refine ⟨v, r, e, Rep.trunc hf x (l.imp id fun z => ?_) h1, RepF.trunc hf xs (l.imp id fun z => ?_) h2⟩ <;>
      (unfold limF at z; rw [Bool.and_eq_true] at z)
    · exact z.1
    · exact z.2
end
end

/-- what stands at a tracked address -/
def RepO (Γ : Gx) (ρ : Nat → Addr) (N : Nat) (H : Hp) (m : Nat) (a : Addr) : CO → Prop
  | .lst xs => ∃ vs, H a = some (.lst vs) ∧ Reps Γ ρ N H m xs vs
  | .dic false kvs => ∃ ds, H a = some (.dK ds) ∧ RepK Γ ρ N H m kvs ds
  | .dic true kvs => ∃ ds, H a = some (.dT ds) ∧ RepT Γ ρ N H m kvs ds
  | .ins c fs => ∃ dx ds, H a = some (.ins (Γ.cl c) dx ds) ∧ RepF Γ ρ N H m fs ds

abbrev Hc.N (hp : Hc) : Nat := hp.os.length
/-- the clean heap is held; F: the floors of the scopes around -/
structure SRh (Γ : Gx) (ρ : Nat → Addr) (F : List Nat) (hp : Hc) (H : Hp) : Prop where
  inj : ∀ i j, i < hp.N → j < hp.N → ρ i = ρ j → i = j
  obj : ∀ i o, hp.os[i]? = some o → RepO Γ ρ hp.N H hp.N (ρ i) o
  fl : hp.fl ≤ hp.N
  fls : ∀ f ∈ F, f ≤ hp.fl ∧ ∀ i o, i < f → hp.os[i]? = some o → limO f o = true
  tab : LamX.Tabs Γ.T H

section
variable {Γ : Gx} {ρ ρ' : Nat → Addr} {N N' : Nat} {H H' : Hp} {F : List Nat} {hp : Hc}
theorem RepO.mono (st : Step ρ N H ρ' N' H') {m m' : Nat} (hm : m ≤ N) (hm' : m ≤ m') {a : Addr} (ha : H' a = H a) : ∀ {o : CO}, RepO Γ ρ N H m a o → RepO Γ ρ' N' H' m' a o
  | .lst xs, h => by
    obtain ⟨vs, e, q⟩ := h
    exact ⟨vs, ha.trans e, Reps.mono st hm hm' _ q⟩
  | .dic false kvs, h => by
    obtain ⟨vs, e, q⟩ := h
    exact ⟨vs, ha.trans e, RepK.mono st hm hm' _ q⟩
  | .dic true kvs, h => by
    obtain ⟨vs, e, q⟩ := h
    exact ⟨vs, ha.trans e, RepT.mono st hm hm' _ q⟩
  | .ins c fs, h => by
    obtain ⟨dx, vs, e, q⟩ := h
    exact ⟨dx, vs, ha.trans e, RepF.mono st hm hm' _ q⟩
theorem RepO.there {a : Addr} {m : Nat} : ∀ {o : CO}, RepO Γ ρ N H m a o → ∃ u, H a = some u
  | .lst xs, h => let ⟨_, e, _⟩ := h; ⟨_, e⟩
  | .dic false kvs, h => let ⟨_, e, _⟩ := h; ⟨_, e⟩
  | .dic true kvs, h => let ⟨_, e, _⟩ := h; ⟨_, e⟩
  | .ins c fs, h => let ⟨_, _, e, _⟩ := h; ⟨_, e⟩
theorem RepO.notTbl {a : Addr} {m : Nat} (ps : Array Value) : ∀ {o : CO}, RepO Γ ρ N H m a o → H a ≠ some (.tbl ps)
  | .lst xs, h => let ⟨_, e, _⟩ := h; fun z => by rw [e] at z; cases z
  | .dic false kvs, h => let ⟨_, e, _⟩ := h; fun z => by rw [e] at z; cases z
  | .dic true kvs, h => let ⟨_, e, _⟩ := h; fun z => by rw [e] at z; cases z
  | .ins c fs, h => let ⟨_, _, e, _⟩ := h; fun z => by rw [e] at z; cases z
theorem RepO.notExt {a : Addr} {m : Nat} (φ : Heap → Prop) : ∀ {o : CO}, RepO Γ ρ N H m a o → H a ≠ some (.ext φ)
  | .lst xs, h => let ⟨_, e, _⟩ := h; fun z => by rw [e] at z; cases z
  | .dic false kvs, h => let ⟨_, e, _⟩ := h; fun z => by rw [e] at z; cases z
  | .dic true kvs, h => let ⟨_, e, _⟩ := h; fun z => by rw [e] at z; cases z
  | .ins c fs, h => let ⟨_, _, e, _⟩ := h; fun z => by rw [e] at z; cases z
theorem SRh.at (r : SRh Γ ρ F hp H) {i : Nat} (hi : i < hp.N) : ∃ o, hp.os[i]? = some o ∧ RepO Γ ρ hp.N H hp.N (ρ i) o :=
  ⟨hp.os[i], List.getElem?_eq_getElem hi, r.obj i _ (List.getElem?_eq_getElem hi)⟩
theorem SRh.there (r : SRh Γ ρ F hp H) {a : Addr} (h : Own ρ hp.N a) : ∃ u, H a = some u := by
  obtain ⟨i, hi, e⟩ := h
  obtain ⟨o, _, q⟩ := r.at hi
  rw [← e]
  exact q.there
theorem SRh.fresh (r : SRh Γ ρ F hp H) {p : Addr} (h : H p = none) : ¬ Own ρ hp.N p := fun o => by
  obtain ⟨u, e⟩ := r.there o
  rw [h] at e; cases e
/-- the heap has changed off what is tracked -/
theorem SRh.off (r : SRh Γ ρ F hp H) (st : Step ρ hp.N H ρ hp.N H') (h : ∀ i, i < hp.N → H' (ρ i) = H (ρ i)) (ht : LamX.Tabs Γ.T H') : SRh Γ ρ F hp H' :=
  ⟨r.inj, fun i o e => (r.obj i o e).mono st (Nat.le_refl _) (Nat.le_refl _) (h i (List.getElem?_eq_some_iff.mp e).1), r.fl, r.fls, ht⟩
theorem rd_upd {p a : Addr} {o u : HO} (h : Rd H a u) (hp : H p = none) : Rd (upd H p o) a u := by
  have ne : a ≠ p := fun e => by
    subst e
    rcases h with h | ⟨z, h⟩ <;> (rw [hp] at h; cases h)
  rcases h with h | ⟨z, h⟩
  · exact .inl (by rw [upd_ne ne]; exact h)
  · exact .inr ⟨z, by rw [upd_ne ne]; exact h⟩
/-- a new object that the clean heap does not hold -/
theorem step_new {p : Addr} {o : HO} (h : H p = none) : Step ρ N H ρ N (upd H p o) :=
  ⟨Nat.le_refl _, fun _ _ => rfl, fun a u q => ⟨q.1, rd_upd q.2 h⟩, fun a u _ q => ⟨q.1, by rw [upd_ne (ne_of_none q.2 h)]; exact q.2⟩⟩
theorem tab_new {p : Addr} {o : HO} (t : LamX.Tabs Γ.T H) (h : H p = none) : LamX.Tabs Γ.T (upd H p o) := t.ext fun b u e => by rw [upd_ne (ne_of_none e h)]; exact e
theorem SRh.new (r : SRh Γ ρ F hp H) {p : Addr} {o : HO} (h : H p = none) : SRh Γ ρ F hp (upd H p o) :=
  r.off (step_new h) (fun i hi => by
    obtain ⟨u, e⟩ := r.there ⟨i, hi, rfl⟩
    exact upd_ne (ne_of_none e h)) (tab_new r.tab h)
/-- the address of a new clean object -/
def ext (ρ : Nat → Addr) (N : Nat) (p : Addr) : Nat → Addr := fun i => if i = N then p else ρ i
theorem ext_at {p : Addr} : ext ρ N p N = p := by unfold ext; rw [if_pos rfl]
theorem ext_lt {p : Addr} {i : Nat} (h : i < N) : ext ρ N p i = ρ i := by unfold ext; rw [if_neg (Nat.ne_of_lt h)]
theorem own_ext {p a : Addr} (h : Own (ext ρ N p) (N + 1) a) : a = p ∨ Own ρ N a := by
  obtain ⟨i, hi, e⟩ := h
  by_cases z : i = N
  · subst z; rw [ext_at] at e; exact .inl e.symm
  · have hl : i < N := by omega
    rw [ext_lt hl] at e
    exact .inr ⟨i, hl, e⟩
theorem step_alloc {p : Addr} {o : HO} (h : H p = none) : Step ρ N H (ext ρ N p) (N + 1) (upd H p o) := by
  have ne : ∀ a u, Rd H a u → a ≠ p := fun a u q e => by
    subst e
    rcases q with q | ⟨z, q⟩ <;> (rw [h] at q; cases q)
  refine ⟨Nat.le_succ _, fun i hi => ext_lt hi, fun a u q => ⟨fun w => ?_, rd_upd q.2 h⟩, fun a u _ q => ⟨fun w => ?_, by rw [upd_ne (ne_of_none q.2 h)]; exact q.2⟩⟩
  · rcases own_ext w with e | w
    · exact ne a u q.2 e
    · exact q.1 w
  · rcases own_ext w with e | w
    · exact ne a _ (.inl q.2) e
    · exact q.1 w
def Hc.push (hp : Hc) (o : CO) : Hc := ⟨hp.fl, hp.os ++ [o]⟩
theorem Hc.push_N (hp : Hc) (o : CO) : (hp.push o).N = hp.N + 1 := by simp [Hc.push, Hc.N]
theorem SRh.alloc (r : SRh Γ ρ F hp H) {p : Addr} {o : HO} {c : CO} (h : H p = none) (new : RepO Γ (ext ρ hp.N p) (hp.N + 1) (upd H p o) (hp.N + 1) p c) : SRh Γ (ext ρ hp.N p) F (hp.push c) (upd H p o) := by
  refine ⟨fun i j hi hj e => ?_, fun i u e => ?_, ?_, fun f hf => ?_, tab_new r.tab h⟩
  · rw [Hc.push_N] at hi hj
    by_cases ei : i = hp.N <;> by_cases ej : j = hp.N
    · rw [ei, ej]
    · subst ei
      have hj' : j < hp.N := by omega
      rw [ext_at, ext_lt hj'] at e
      obtain ⟨u, q⟩ := r.there ⟨j, hj', rfl⟩
      rw [← e, h] at q; cases q
    · subst ej
      have hi' : i < hp.N := by omega
      rw [ext_at, ext_lt hi'] at e
      obtain ⟨u, q⟩ := r.there ⟨i, hi', rfl⟩
      rw [e, h] at q; cases q
    · have hi' : i < hp.N := by omega
      have hj' : j < hp.N := by omega
      rw [ext_lt hi', ext_lt hj'] at e
      exact r.inj i j hi' hj' e
  · rw [Hc.push_N]
    by_cases ei : i < hp.N
    · have e' : hp.os[i]? = some u := by
        have z : (hp.os ++ [c])[i]? = some u := e
        rwa [List.getElem?_append_left ei] at z
      rw [ext_lt ei]
      obtain ⟨w, q⟩ := r.there ⟨i, ei, rfl⟩
      exact (r.obj i u e').mono (step_alloc h) (Nat.le_refl _) (Nat.le_succ _) (upd_ne (ne_of_none q h))
    · have z : (hp.os ++ [c])[i]? = some u := e
      have hl := (List.getElem?_eq_some_iff.mp z).1
      rw [List.length_append, List.length_singleton] at hl
      have ei2 : ¬ i < hp.os.length := ei
      have ei' : i = hp.N := by show i = hp.os.length; omega
      subst ei'
      have z' : (hp.os ++ [c])[hp.os.length]? = some u := z
      rw [List.getElem?_append_right (Nat.le_refl _), Nat.sub_self] at z'
      simp only [List.getElem?_cons_zero, Option.some.injEq] at z'
      subst z'
      rw [ext_at]
      exact new
  · rw [Hc.push_N]; exact Nat.le_succ_of_le r.fl
  · refine ⟨(r.fls f hf).1, fun i u hi e => (r.fls f hf).2 i u hi ?_⟩
    have z : (hp.os ++ [c])[i]? = some u := e
    have hl : i < hp.os.length := Nat.lt_of_lt_of_le hi (Nat.le_trans (r.fls f hf).1 r.fl)
    rwa [List.getElem?_append_left hl] at z

/-- an object of the clean heap is written -/
def Hc.set (hp : Hc) (i : Nat) (o : CO) : Hc := ⟨hp.fl, hp.os.set i o⟩
theorem Hc.set_N (hp : Hc) (i : Nat) (o : CO) : (hp.set i o).N = hp.N := by simp [Hc.set, Hc.N]
theorem step_write {i : Nat} {o : HO} (hi : i < N) : Step ρ N H ρ N (upd H (ρ i) o) := by
  refine ⟨Nat.le_refl _, fun _ _ => rfl, fun a u q => ⟨q.1, ?_⟩, fun a u _ q => ⟨q.1, ?_⟩⟩
  · have ne : a ≠ ρ i := fun e => q.1 ⟨i, hi, e.symm⟩
    rcases q.2 with z | ⟨w, z⟩
    · exact .inl (by rw [upd_ne ne]; exact z)
    · exact .inr ⟨w, by rw [upd_ne ne]; exact z⟩
  · have ne : a ≠ ρ i := fun e => q.1 ⟨i, hi, e.symm⟩
    rw [upd_ne ne]; exact q.2
theorem SRh.write (r : SRh Γ ρ F hp H) {i : Nat} {o : HO} {c : CO} (hi : i < hp.N) (hl : i < hp.fl → limO (i + 1) c = true) (lm : ∀ f, i + 1 ≤ f → limO (i + 1) c = true → limO f c = true)
    (new : RepO Γ ρ hp.N (upd H (ρ i) o) hp.N (ρ i) c) : SRh Γ ρ F (hp.set i c) (upd H (ρ i) o) := by
  refine ⟨fun a b ha hb e => ?_, fun j u e => ?_, ?_, fun f hf => ⟨(r.fls f hf).1, fun j u hj e => ?_⟩, fun q hq => ?_⟩
  · rw [Hc.set_N] at ha hb
    exact r.inj a b ha hb e
  · rw [Hc.set_N]
    have z : (hp.os.set i c)[j]? = some u := e
    by_cases hij : i = j
    · subst hij
      rw [List.getElem?_set_self hi] at z
      cases z
      exact new
    · rw [List.getElem?_set_ne hij] at z
      have hj : j < hp.N := (List.getElem?_eq_some_iff.mp z).1
      exact (r.obj j u z).mono (step_write hi) (Nat.le_refl _) (Nat.le_refl _) (upd_ne fun q => hij (r.inj i j hi hj q.symm))
  · rw [Hc.set_N]; exact r.fl
  · have z : (hp.os.set i c)[j]? = some u := e
    by_cases hij : i = j
    · subst hij
      rw [List.getElem?_set_self hi] at z
      cases z
      exact lm f hj (hl (Nat.lt_of_lt_of_le hj (r.fls f hf).1))
    · rw [List.getElem?_set_ne hij] at z
      exact (r.fls f hf).2 j u hj z
  · obtain ⟨ps, h1, h2, h3⟩ := r.tab q hq
    obtain ⟨oc, _, ho⟩ := r.at hi
    have e1 : q.1 ≠ ρ i := fun z => ho.notTbl ps (by rw [← z]; exact h1)
    refine ⟨ps, by rw [upd_ne e1]; exact h1, h2, fun pos cv hc => ?_⟩
    obtain ⟨c0, rfl, h4⟩ := h3 pos cv hc
    have e2 : c0 ≠ ρ i := fun z => ho.notExt _ (by rw [← z]; exact h4)
    exact ⟨c0, rfl, by rw [upd_ne e2]; exact h4⟩
mutual
theorem limV_mono {f g : Nat} (h : f ≤ g) : ∀ x : CV, limV f x = true → limV g x = true
  | .ref n, e => by unfold limV at e ⊢; exact decide_eq_true (Nat.lt_of_lt_of_le (of_decide_eq_true e) h)
  | .tup xs, e => by unfold limV at e ⊢; exact limL_mono h xs e
  | .non, e => rfl
  | .bl _, e => rfl
  | .int _, e => rfl
  | .str _, e => rfl
  | .wtp _, e => rfl
  | .wdc _, e => rfl
  | .lst _, e => rfl
  | .dct _ _, e => rfl
  | .ins _ _, e => rfl
theorem limL_mono {f g : Nat} (h : f ≤ g) : ∀ xs : List CV, limL f xs = true → limL g xs = true
  | [], _ => rfl
  | x :: xs, e => by
    unfold limL at e ⊢
    rw [Bool.and_eq_true] at e ⊢
    exact ⟨limV_mono h x e.1, limL_mono h xs e.2⟩
end
theorem limK_mono {f g : Nat} (h : f ≤ g) : ∀ xs : List (CV × CV), limK f xs = true → limK g xs = true
  | [], _ => rfl
  | x :: xs, e => by
    unfold limK at e ⊢
    rw [Bool.and_eq_true] at e ⊢
    exact ⟨limV_mono h x.2 e.1, limK_mono h xs e.2⟩
theorem limF_mono {f g : Nat} (h : f ≤ g) : ∀ xs : List (Nat × CV), limF f xs = true → limF g xs = true
  | [], _ => rfl
  | x :: xs, e => by
    unfold limF at e ⊢
    rw [Bool.and_eq_true] at e ⊢
    exact ⟨limV_mono h x.2 e.1, limF_mono h xs e.2⟩
theorem limO_mono {f g : Nat} (h : f ≤ g) : ∀ c : CO, limO f c = true → limO g c = true
  | .lst xs, e => limL_mono h xs e
  | .dic _ kvs, e => limK_mono h kvs e
  | .ins _ fs, e => limF_mono h fs e
end

/-! ### freezing -/
def frzL (g : CV → Option CV) : List CV → Option (List CV)
  | [] => some []
  | x :: r => match g x, frzL g r with
    | some y, some s => some (y :: s)
    | _, _ => none
def frzK (g : CV → Option CV) : List (CV × CV) → Option (List (CV × CV))
  | [] => some []
  | x :: r => match g x.2, frzK g r with
    | some y, some s => some ((x.1, y) :: s)
    | _, _ => none
def frzF (g : CV → Option CV) : List (Nat × CV) → Option (List (Nat × CV))
  | [] => some []
  | x :: r => match g x.2, frzF g r with
    | some y, some s => some ((x.1, y) :: s)
    | _, _ => none
def frz (os : List CO) (f : Nat) : Nat → Bool → CV → Option CV
  | 0, _, _ => none
  | d + 1, top, .ref n => if n < f then (if top then some (.ref n) else none) else match os[n]? with
    | some (.lst xs) => (frzL (frz os f d false) xs).map .lst
    | some (.dic t kvs) => (frzK (frz os f d false) kvs).map (.dct t)
    | some (.ins c fs) => (frzF (frz os f d false) fs).map (.ins c)
    | none => none
  | d + 1, top, .tup xs => (frzL (frz os f d top) xs).map .tup
  | d + 1, _, x => some x
def frzV (os : List CO) (f : Nat) (v : CV) : Option CV := if limV f v = true then some v else frz os f 16 true v

section
variable {Γ : Gx} {ρ : Nat → Addr} {H : Hp} {F : List Nat} {hp : Hc} {f : Nat}
theorem frzL_ok {g : CV → Option CV} {m m' : Nat} (hg : ∀ x y v, g x = some y → Rep Γ ρ hp.N H m x v → Rep Γ ρ f H m' y v) : ∀ {xs ys : List CV} {vs : List V}, frzL g xs = some ys → Reps Γ ρ hp.N H m xs vs → Reps Γ ρ f H m' ys vs
  | [], ys, vs, e, h => by
    unfold frzL at e; cases e
    unfold Reps at h ⊢; exact h
  | x :: xs, ys, vs, e, h => by
    unfold frzL at e
    split at e
    · rename_i y s e1 e2
      cases e
      unfold Reps at h ⊢
      obtain ⟨v, r, q, h1, h2⟩ := h
      exact ⟨v, r, q, hg _ _ _ e1 h1, frzL_ok hg e2 h2⟩
    · cases e
theorem frzK_ok {g : CV → Option CV} {m m' : Nat} (hg : ∀ x y v, g x = some y → Rep Γ ρ hp.N H m x v → Rep Γ ρ f H m' y v) : ∀ {xs ys : List (CV × CV)} {vs : List (Key × V)}, frzK g xs = some ys → RepK Γ ρ hp.N H m xs vs → RepK Γ ρ f H m' ys vs
  | [], ys, vs, e, h => by
    unfold frzK at e; cases e
    unfold RepK at h ⊢; exact h
  | (k, x) :: xs, ys, vs, e, h => by
    unfold frzK at e
    split at e
    · rename_i y s e1 e2
      cases e
      unfold RepK at h ⊢
      obtain ⟨k', v, r, q, hk, h1, h2⟩ := h
      exact ⟨k', v, r, q, hk, hg _ _ _ e1 h1, frzK_ok hg e2 h2⟩
    · cases e
theorem frzT_ok {g : CV → Option CV} {m m' : Nat} (hg : ∀ x y v, g x = some y → Rep Γ ρ hp.N H m x v → Rep Γ ρ f H m' y v) : ∀ {xs ys : List (CV × CV)} {vs : List (List Key × V)}, frzK g xs = some ys → RepT Γ ρ hp.N H m xs vs → RepT Γ ρ f H m' ys vs
  | [], ys, vs, e, h => by
    unfold frzK at e; cases e
    unfold RepT at h ⊢; exact h
  | (k, x) :: xs, ys, vs, e, h => by
    unfold frzK at e
    split at e
    · rename_i y s e1 e2
      cases e
      unfold RepT at h ⊢
      obtain ⟨k', v, r, q, hk, h1, h2⟩ := h
      exact ⟨k', v, r, q, hk, hg _ _ _ e1 h1, frzT_ok hg e2 h2⟩
    · cases e
theorem frzF_ok {g : CV → Option CV} {m m' : Nat} (hg : ∀ x y v, g x = some y → Rep Γ ρ hp.N H m x v → Rep Γ ρ f H m' y v) : ∀ {xs ys : List (Nat × CV)} {vs : List (Str × V)}, frzF g xs = some ys → RepF Γ ρ hp.N H m xs vs → RepF Γ ρ f H m' ys vs
  | [], ys, vs, e, h => by
    unfold frzF at e; cases e
    unfold RepF at h ⊢; exact h
  | (k, x) :: xs, ys, vs, e, h => by
    unfold frzF at e
    split at e
    · rename_i y s e1 e2
      cases e
      unfold RepF at h ⊢
      obtain ⟨v, r, q, h1, h2⟩ := h
      exact ⟨v, r, q, hg _ _ _ e1 h1, frzF_ok hg e2 h2⟩
    · cases e
theorem frz_ok (r : SRh Γ ρ F hp H) (hf : f ≤ hp.N) : ∀ (d : Nat) (top : Bool) (x y : CV) (m : Nat) (v : V), m ≤ hp.N → frz hp.os f d top x = some y → Rep Γ ρ hp.N H m x v → Rep Γ ρ f H (if top then f else 0) y v := by
  intro d
  induction d with
  | zero => intro top x y m v _ e; simp [frz] at e
  | succ d ih =>
    intro top x y m v hm e h
    have pass : ∀ (z : CV), limV 0 z = true → Rep Γ ρ hp.N H m z v → Rep Γ ρ f H (if top then f else 0) z v := fun z hz hr =>
      Rep.trunc hf z (.inr (limV_mono (Nat.zero_le _) z hz)) hr
    cases x with
    | ref n =>
      unfold Rep at h
      obtain ⟨hn, rfl⟩ := h
      have hnN : n < hp.N := Nat.lt_of_lt_of_le hn hm
      unfold frz at e
      by_cases hnf : n < f
      · rw [if_pos hnf] at e
        cases top with
        | true =>
          simp only [if_true] at e ⊢
          cases e
          unfold Rep
          exact ⟨hnf, rfl⟩
        | false => simp at e
      · rw [if_neg hnf] at e
        have free : ¬ Own ρ f (ρ n) := fun ⟨i, hi, q⟩ => hnf (by
          have := r.inj i n (Nat.lt_of_lt_of_le hi hf) hnN q
          omega)
        split at e
        · rename_i xs he
          obtain ⟨vs, ha, hq⟩ := r.obj n _ he
          cases q : frzL (frz hp.os f d false) xs with
          | none => rw [q] at e; cases e
          | some ys =>
            rw [q] at e; cases e
            unfold Rep
            exact ⟨ρ n, vs, rfl, .inl ⟨free, .inl ha⟩, frzL_ok (fun x y v q1 q2 => ih false x y hp.N v (Nat.le_refl _) q1 q2) q hq⟩
        · rename_i t kvs he
          cases q : frzK (frz hp.os f d false) kvs with
          | none => rw [q] at e; cases e
          | some ys =>
            rw [q] at e; cases e
            cases t with
            | false =>
              obtain ⟨vs, ha, hq⟩ := r.obj n _ he
              unfold Rep
              exact ⟨ρ n, vs, rfl, ⟨free, .inl ha⟩, frzK_ok (fun x y v q1 q2 => ih false x y hp.N v (Nat.le_refl _) q1 q2) q hq⟩
            | true =>
              obtain ⟨vs, ha, hq⟩ := r.obj n _ he
              unfold Rep
              exact ⟨ρ n, vs, rfl, ⟨free, .inl ha⟩, frzT_ok (fun x y v q1 q2 => ih false x y hp.N v (Nat.le_refl _) q1 q2) q hq⟩
        · rename_i c fs he
          obtain ⟨dx, vs, ha, hq⟩ := r.obj n _ he
          cases q : frzF (frz hp.os f d false) fs with
          | none => rw [q] at e; cases e
          | some ys =>
            rw [q] at e; cases e
            unfold Rep
            exact ⟨ρ n, dx, vs, rfl, ⟨free, ha⟩, frzF_ok (fun x y v q1 q2 => ih false x y hp.N v (Nat.le_refl _) q1 q2) q hq⟩
        · cases e
    | tup xs =>
      unfold frz at e
      cases q : frzL (frz hp.os f d top) xs with
      | none => rw [q] at e; cases e
      | some ys =>
        rw [q] at e; cases e
        unfold Rep at h ⊢
        obtain ⟨a, vs, rfl, hr, hq⟩ := h
        exact ⟨a, vs, rfl, hr.trunc hf, frzL_ok (fun x y v q1 q2 => ih top x y m v hm q1 q2) q hq⟩
    | non => unfold frz at e; cases e; exact pass _ rfl h
    | bl _ => unfold frz at e; cases e; exact pass _ rfl h
    | int _ => unfold frz at e; cases e; exact pass _ rfl h
    | str _ => unfold frz at e; cases e; exact pass _ rfl h
    | wtp _ => unfold frz at e; cases e; exact pass _ rfl h
    | wdc _ => unfold frz at e; cases e; exact pass _ rfl h
    | lst _ => unfold frz at e; cases e; exact pass _ rfl h
    | dct _ _ => unfold frz at e; cases e; exact pass _ rfl h
    | ins _ _ => unfold frz at e; cases e; exact pass _ rfl h
theorem frzV_ok (r : SRh Γ ρ F hp H) (hf : f ≤ hp.N) {x y : CV} {v : V} (e : frzV hp.os f x = some y) (h : Rep Γ ρ hp.N H hp.N x v) : Rep Γ ρ f H f y v := by
  unfold frzV at e
  split at e
  · rename_i hl
    cases e
    exact Rep.trunc hf x (.inr hl) h
  · exact frz_ok r hf 16 true x y hp.N v (Nat.le_refl _) e h
/-- behind a scope: the young objects are no longer held -/
def Hc.cut (hp : Hc) (fl N : Nat) : Hc := ⟨fl, hp.os.take N⟩
theorem Hc.cut_N {hp : Hc} {fl N : Nat} (h : N ≤ hp.N) : (hp.cut fl N).N = N := by
  show (hp.os.take N).length = N
  rw [List.length_take]; exact Nat.min_eq_left h
theorem SRh.cut {hp' : Hc} {N fl : Nat} (r : SRh Γ ρ (N :: F) hp' H) (hN : N ≤ hp'.N) (hfl : fl ≤ N) (hF : ∀ f ∈ F, f ≤ fl) : SRh Γ ρ F (hp'.cut fl N) H := by
  refine ⟨fun i j hi hj e => ?_, fun i o e => ?_, ?_, fun f hf => ⟨hF f hf, fun i o hi e => ?_⟩, r.tab⟩
  · rw [Hc.cut_N hN] at hi hj
    exact r.inj i j (Nat.lt_of_lt_of_le hi hN) (Nat.lt_of_lt_of_le hj hN) e
  · rw [Hc.cut_N hN]
    have z : (hp'.os.take N)[i]? = some o := e
    have hi : i < N := by
      have := (List.getElem?_eq_some_iff.mp z).1
      rw [List.length_take] at this
      exact Nat.lt_of_lt_of_le this (Nat.min_le_left _ _)
    rw [List.getElem?_take_of_lt hi] at z
    have q := r.obj i o z
    have l := (r.fls N List.mem_cons_self).2 i o hi z
    cases o with
    | lst xs =>
      obtain ⟨vs, e1, q1⟩ := q
      exact ⟨vs, e1, Reps.trunc hN xs (.inr l) q1⟩
    | dic t kvs =>
      cases t with
      | false =>
        obtain ⟨vs, e1, q1⟩ := q
        exact ⟨vs, e1, RepK.trunc hN kvs (.inr l) q1⟩
      | true =>
        obtain ⟨vs, e1, q1⟩ := q
        exact ⟨vs, e1, RepT.trunc hN kvs (.inr l) q1⟩
    | ins c fs =>
      obtain ⟨dx, vs, e1, q1⟩ := q
      exact ⟨dx, vs, e1, RepF.trunc hN fs (.inr l) q1⟩
  · rw [Hc.cut_N hN]; exact hfl
  · have z : (hp'.os.take N)[i]? = some o := e
    have hi' : i < N := by
      have := (List.getElem?_eq_some_iff.mp z).1
      rw [List.length_take] at this
      exact Nat.lt_of_lt_of_le this (Nat.min_le_left _ _)
    rw [List.getElem?_take_of_lt hi'] at z
    exact (r.fls f (List.mem_cons_of_mem _ hf)).2 i o hi z
end
end Bl

/-! Own layer, part C: readings of clean computations. -/
namespace Bl
open PySem PySem.Spec PyProof.Rows L2

abbrev M (α : Type) := En → Hc → R α
abbrev Fn := List CV → Hc → R CV
inductive Fl where
  | nx (env : En) | rt (v : CV) | bk (env : En) | ct (env : En) | ex (c : Nat) (fs : List (Nat × CV)) (env : En)
inductive RS where
  | ok (f : Fl) (h : Hc) | stuck
abbrev MS := En → Hc → RS

structure SRe (Γ : Gx) (ρ : Nat → Addr) (N : Nat) (H : Hp) (σ : L2.St) (env : En) : Prop where
  len : σ.length = env.length
  get : ∀ (i : Nat) (v : CV), env[i]? = some (some v) → ∃ x : V, σ[i]? = some (some x) ∧ Rep Γ ρ N H N v x
def ExcR (Γ : Gx) (ρ : Nat → Addr) (N : Nat) (H : Hp) (fs : List (Nat × CV)) (d : Option Addr) : Prop :=
  (fs = [] ∧ d = none) ∨ ∃ a ds, d = some a ∧ H a = some (.xd ds) ∧ RepF Γ ρ N H 0 fs ds
abbrev Re (α β : Type) := (Nat → Addr) → Nat → Hp → α → β → Prop
abbrev reV (Γ : Gx) : Re CV V := fun ρ N H v x => Rep Γ ρ N H N v x
abbrev reA (Γ : Gx) : Re (List CV) (List V) := fun ρ N H v x => Reps Γ ρ N H N v x
abbrev reB : Re Bool Bool := fun _ _ _ b c => b = c

def Post {α β : Type} (Γ : Gx) (F : List Nat) (W : WX) (σ : L2.St) (ρ : Nat → Addr) (N : Nat) (H : Hp) (re : Re α β) (r : R α) (Q : β → Hp → Prop) : Prop := match r with
  | .ok v hp' => ∀ ρ' H' x, Step ρ N H ρ' hp'.N H' → SRh Γ ρ' F hp' H' → re ρ' hp'.N H' v x → Q x H'
  | .exc c fs hp' => ∀ ρ' H' d, Step ρ N H ρ' hp'.N H' → SRh Γ ρ' F hp' H' → ExcR Γ ρ' hp'.N H' fs d → W (.ref (Γ.cl c)) d σ H'
  | .stuck => False
def rd {α β : Type} (Γ : Gx) (W : WX) (re : Re α β) (m : M α) : L2.St → Hp → (β → Hp → Prop) → Prop := fun σ H Q =>
  ∃ ρ F hp env, SRh Γ ρ F hp H ∧ SRe Γ ρ hp.N H σ env ∧ Post Γ F W σ ρ hp.N H re (m env hp) Q

section
variable {Γ : Gx} {W : WX} {F : List Nat} {σ : L2.St} {ρ ρ' : Nat → Addr} {N N' : Nat} {H H' : Hp} {env : En} {hp : Hc}
theorem SRe.mono (h : SRe Γ ρ N H σ env) (st : Step ρ N H ρ' N' H') : SRe Γ ρ' N' H' σ env :=
  ⟨h.len, fun i v e => let ⟨x, h1, h2⟩ := h.get i v e; ⟨x, h1, h2.mono st (Nat.le_refl _) st.le⟩⟩
theorem Post.step {α β : Type} {re : Re α β} {r : R α} {Q : β → Hp → Prop} (st : Step ρ N H ρ' N' H') (h : Post Γ F W σ ρ N H re r Q) : Post Γ F W σ ρ' N' H' re r Q := by
  cases r with
  | ok v hp' => exact fun ρ2 H2 x s r e => h ρ2 H2 x (st.trans s) r e
  | exc c fs hp' => exact fun ρ2 H2 d s r e => h ρ2 H2 d (st.trans s) r e
  | stuck => exact h
theorem Post.bind {α β γ δ : Type} {re : Re α β} {re2 : Re γ δ} {r : R α} {f : α → Hc → R γ} {Q : δ → Hp → Prop} (h : Post Γ F W σ ρ N H re2 (r.bind f) Q) :
    Post Γ F W σ ρ N H re r (fun x H1 => ∃ ρ1 hp1 a, Step ρ N H ρ1 hp1.N H1 ∧ SRh Γ ρ1 F hp1 H1 ∧ re ρ1 hp1.N H1 a x ∧ Post Γ F W σ ρ1 hp1.N H1 re2 (f a hp1) Q) := by
  cases r with
  | ok v hp' => exact fun ρ' H' x s r e => ⟨ρ', hp', v, s, r, e, Post.step s h⟩
  | exc c fs hp' => exact h
  | stuck => exact h
/-- the value is there -/
theorem Post.ok {α β : Type} {re : Re α β} {v : α} {x : β} {Q : β → Hp → Prop} (h : Post Γ F W σ ρ hp.N H re (.ok v hp) Q) (r : SRh Γ ρ F hp H) (e : re ρ hp.N H v x) : Q x H := h ρ H x Step.refl r e
end

/-- what is needed of the context -/
class Sx (X : Cx) (Γ : outParam Gx) (W : outParam WX) (k : outParam Nat) : Prop where
  K : X.K = Γ.K
  calm : X.calm = true
  nd : X.N.Nodup
  room : Room k X.A
  tk : Takes X W

abbrev SimE (X : Cx) (Γ : Gx) (W : WX) (e : Expr) (m : M CV) : Prop := PE X e (rd Γ W (reV Γ) m)
abbrev SimT (X : Cx) (Γ : Gx) (W : WX) (e : Expr) (m : M Bool) : Prop := PT X e (rd Γ W reB m)
abbrev SimA (X : Cx) (Γ : Gx) (W : WX) (es : List Expr) (m : M (List CV)) : Prop := PA X es (rd Γ W (reA Γ) m)

section
variable {X : Cx} {Γ : Gx} {W : WX}
theorem pe_imp {e : Expr} {t t' : TE} (h : PE X e t) (i : ∀ σ H Q, t' σ H Q → t σ H Q) : PE X e t' := ⟨fun pins s σ H Q I q => h.run pins s σ H Q I (i σ H Q q)⟩
theorem pt_imp {e : Expr} {t t' : TT} (h : PT X e t) (i : ∀ σ H Q, t' σ H Q → t σ H Q) : PT X e t' := ⟨fun pins s σ H Q I q => h.run pins s σ H Q I (i σ H Q q)⟩
theorem pw_imp {e : Expr} {t t' : TT} (h : PW X e t) (i : ∀ σ H Q, t' σ H Q → t σ H Q) : PW X e t' := ⟨fun wh pins s σ H Q I q => h.run wh pins s σ H Q I (i σ H Q q)⟩
theorem pa_imp {es : List Expr} {t t' : TA} (h : PA X es t) (i : ∀ σ H Q, t' σ H Q → t σ H Q) : PA X es t' := ⟨fun pos pins s σ H Q I q => h.run pos pins s σ H Q I (i σ H Q q)⟩
theorem ps_imp {st : Stmt} {t t' : TS} (h : PS X st t) (i : ∀ D σ H, t' D σ H → t D σ H) : PS X st t' := ⟨fun pins s σ H D I q => h.run pins s σ H D I (i D σ H q)⟩
theorem pss_imp {st : List Stmt} {t t' : TS} (h : PSs X st t) (i : ∀ D σ H, t' D σ H → t D σ H) : PSs X st t' := ⟨fun pins s σ H D I q => h.run pins s σ H D I (i D σ H q)⟩

/-- the rule that all steps use: the first part's reading from the whole's -/
theorem rd_first {α β γ δ : Type} {re : Re α β} {re2 : Re γ δ} {m : M α} {f : α → M γ} {σ : L2.St} {H : Hp} {Q : δ → Hp → Prop}
    (h : rd Γ W re2 (fun env hp => (m env hp).bind fun a hp => f a env hp) σ H Q) :
    ∃ ρ F hp env, SRh Γ ρ F hp H ∧ SRe Γ ρ hp.N H σ env ∧ rd Γ W re m σ H (fun x H1 => ∃ ρ1 hp1 a, Step ρ hp.N H ρ1 hp1.N H1 ∧ SRh Γ ρ1 F hp1 H1 ∧ SRe Γ ρ1 hp1.N H1 σ env ∧ re ρ1 hp1.N H1 a x ∧ Post Γ F W σ ρ1 hp1.N H1 re2 (f a env hp1) Q) := by
  obtain ⟨ρ, F, hp, env, r, e, p⟩ := h
  refine ⟨ρ, F, hp, env, r, e, ρ, F, hp, env, r, e, ?_⟩
  have q := Post.bind (re := re) p
  revert q
  generalize m env hp = z
  intro q
  cases z with
  | ok v hp' => exact fun ρ' H' x s r' e' => let ⟨ρ1, hp1, a, s1, r1, h1, p1⟩ := q ρ' H' x s r' e'; ⟨ρ1, hp1, a, s1, r1, e.mono s1, h1, p1⟩
  | exc c fs hp' => exact q
  | stuck => exact q
theorem rd_next {α β γ δ : Type} {re : Re α β} {re2 : Re γ δ} {m : M α} {f : α → Hc → R γ} {F : List Nat} {ρ : Nat → Addr} {hp : Hc} {env : En} {σ : L2.St} {H : Hp} {Q : δ → Hp → Prop}
    (r : SRh Γ ρ F hp H) (e : SRe Γ ρ hp.N H σ env) (p : Post Γ F W σ ρ hp.N H re2 ((m env hp).bind f) Q) :
    rd Γ W re m σ H (fun x H1 => ∃ ρ1 hp1 a, Step ρ hp.N H ρ1 hp1.N H1 ∧ SRh Γ ρ1 F hp1 H1 ∧ SRe Γ ρ1 hp1.N H1 σ env ∧ re ρ1 hp1.N H1 a x ∧ Post Γ F W σ ρ1 hp1.N H1 re2 (f a hp1) Q) := by
  refine ⟨ρ, F, hp, env, r, e, ?_⟩
  have q := Post.bind (re := re) p
  revert q
  generalize m env hp = z
  intro q
  cases z with
  | ok v hp' => exact fun ρ' H' x s r' e' => let ⟨ρ1, hp1, a, s1, r1, h1, p1⟩ := q ρ' H' x s r' e'; ⟨ρ1, hp1, a, s1, r1, e.mono s1, h1, p1⟩
  | exc c fs hp' => exact q
  | stuck => exact q

/-! ### names, constants -/
def eVar (i : Nat) : M CV := fun env hp => match env[i]? with
  | some (some v) => .ok v hp
  | _ => .stuck
def eC (v : CV) : M CV := fun _ hp => .ok v hp
theorem sim_tvar {i : Nat} {e : Expr} (h : PE X e (tVar i)) : SimE X Γ W e (eVar i) := pe_imp h fun σ H Q q => by
  obtain ⟨ρ, F, hp, env, r, e, p⟩ := q
  unfold eVar at p
  split at p
  · rename_i v hv
    obtain ⟨x, hx, hr⟩ := e.get i v hv
    exact ⟨x, hx, p.ok r hr⟩
  · exact p.elim
theorem sim_c {v : CV} {x : V} {e : Expr} (h : PE X e (tC x)) (hr : ∀ ρ N H, Rep Γ ρ N H N v x) : SimE X Γ W e (eC v) := pe_imp h fun σ H Q q => by
  obtain ⟨ρ, F, hp, env, r, e, p⟩ := q
  exact p.ok r (hr _ _ _)
theorem sim_int {i : Int} {j pos} : SimE X Γ W (.Constant (.int i) j pos) (eC (.int i)) := sim_c pe_int fun _ _ _ => by unfold Rep; rfl
theorem sim_bl {i : Bool} {j pos} : SimE X Γ W (.Constant (.bool i) j pos) (eC (.bl i)) := sim_c pe_bl fun _ _ _ => by unfold Rep; rfl
theorem sim_non {j pos} : SimE X Γ W (.Constant .none j pos) (eC .non) := sim_c pe_non fun _ _ _ => by unfold Rep; rfl
theorem sim_str {x : Str} {s : List Nat} {j pos} (h : x = sOf s := by rfl) : SimE X Γ W (.Constant (.str x) j pos) (eC (.str s)) := sim_c pe_str fun _ _ _ => by unfold Rep; rw [h]

/-! ### two operands -/
def e2 (f : CV → CV → Hc → R CV) (a b : M CV) : M CV := fun env hp => (a env hp).bind fun x hp => (b env hp).bind fun y hp => f x y hp
/-- a clean operation and the reading of the library's -/
def VOp (Γ : Gx) (W : WX) (r : R2) (f : CV → CV → Hc → R CV) : Prop := ∀ (σ : L2.St) (ρ : Nat → Addr) (F : List Nat) (hp : Hc) (H : Hp) (a b : CV) (x y : V) (Q : VK),
  SRh Γ ρ F hp H → Rep Γ ρ hp.N H hp.N a x → Rep Γ ρ hp.N H hp.N b y → Post Γ F W σ ρ hp.N H (reV Γ) (f a b hp) Q → r x y H Q
theorem rd_mono {α β : Type} {re : Re α β} {m : M α} {σ : L2.St} {H : Hp} {Q Q' : β → Hp → Prop} (h : rd Γ W re m σ H Q) (i : ∀ x H, Q x H → Q' x H) : rd Γ W re m σ H Q' := by
  obtain ⟨ρ, F, hp, env, r, e, p⟩ := h
  refine ⟨ρ, F, hp, env, r, e, ?_⟩
  revert p
  generalize m env hp = z
  intro p
  cases z with
  | ok v hp' => exact fun ρ' H' x s r e => i x H' (p ρ' H' x s r e)
  | exc c fs hp' => exact p
  | stuck => exact p
theorem e2_op {r : R2} {f : CV → CV → Hc → R CV} (v : VOp Γ W r f) {ma mb : M CV} {σ : L2.St} {H : Hp} {Q : VK} (h : rd Γ W (reV Γ) (e2 f ma mb) σ H Q) : tOp r (rd Γ W (reV Γ) ma) (rd Γ W (reV Γ) mb) σ H Q := by
  obtain ⟨ρ, F, hp, env, r0, e0, p⟩ := h
  refine rd_mono (rd_next (re := reV Γ) r0 e0 p) fun x H1 ⟨ρ1, hp1, a, s1, r1, e1, h1, p1⟩ => ?_
  refine rd_mono (rd_next (re := reV Γ) r1 e1 p1) fun y H2 ⟨ρ2, hp2, b, s2, r2, e2, h2, p2⟩ => ?_
  exact v σ ρ2 F hp2 H2 a b x y Q r2 (h1.mono s2 (Nat.le_refl _) s2.le) h2 p2
end
end Bl

/-! Own layer, part D: operators, comparisons, tests. -/
namespace Bl
open PySem PySem.Spec PyProof.Rows L2
section
variable {X : Cx} {Γ : Gx} {W : WX} {k : Nat}
theorem repI {ρ N H m i} : Rep Γ ρ N H m (.int i) (.int i) := by unfold Rep; rfl
theorem repB {ρ N H m i} : Rep Γ ρ N H m (.bl i) (.bl i) := by unfold Rep; rfl
theorem repN {ρ N H m} : Rep Γ ρ N H m .non .non := by unfold Rep; rfl
theorem repS {ρ N H m s} : Rep Γ ρ N H m (.str s) (.str (sOf s)) := by unfold Rep; rfl
/-- ints, some condition -/
def vI (g : Int → Int → CV) : CV → CV → Hc → R CV
  | .int i, .int j, hp => .ok (g i j) hp
  | _, _, _ => .stuck
def vIC (C : Int → Int → Bool) (g : Int → Int → CV) : CV → CV → Hc → R CV
  | .int i, .int j, hp => if C i j = true then .ok (g i j) hp else .stuck
  | _, _, _ => .stuck
theorem vop_I {g : Int → Int → CV} {gv : Int → Int → V} (hg : ∀ i j ρ N H, Rep Γ ρ N H N (g i j) (gv i j)) : VOp Γ W (rI0 gv) (vI g) := by
  intro σ ρ F hp H a b x y Q r ra rb p
  unfold vI at p
  split at p
  · unfold Rep at ra rb
    subst ra rb
    exact ⟨_, _, rfl, rfl, p.ok r (hg _ _ _ _ _)⟩
  · exact p.elim
theorem vop_IC {C : Int → Int → Bool} {Cp : Int → Int → Prop} {g : Int → Int → CV} {gv : Int → Int → V} (hC : ∀ i j, C i j = true → Cp i j) (hg : ∀ i j ρ N H, Rep Γ ρ N H N (g i j) (gv i j)) : VOp Γ W (rI Cp gv) (vIC C g) := by
  intro σ ρ F hp H a b x y Q r ra rb p
  unfold vIC at p
  split at p
  · unfold Rep at ra rb
    subst ra rb
    split at p
    · rename_i hc
      exact ⟨_, _, rfl, rfl, hC _ _ hc, p.ok r (hg _ _ _ _ _)⟩
    · exact p.elim
  · exact p.elim
def vSub := vI fun i j => .int (i - j)
def vLt := vI fun i j => .bl (decide (i < j))
def vLe := vI fun i j => .bl (decide (i ≤ j))
def vGt := vI fun i j => .bl (decide (j < i))
def vGe := vI fun i j => .bl (decide (j ≤ i))
def cMul (i j : Int) : Bool := (decide (-(2 ^ 64) < i) && decide (i < 2 ^ 64)) || (decide (-(2 ^ 64) < j) && decide (j < 2 ^ 64))
def vMul := vIC cMul fun i j => .int (i * j)
def cDiv (_ j : Int) : Bool := decide (0 < j) && decide (j < 1073741824)
def vDiv := vIC cDiv fun i j => .int (i / j)
def cMod (_ j : Int) : Bool := decide (0 < j)
def vMod := vIC cMod fun i j => .int (i % j)
def cPow (i j : Int) : Bool := decide (0 ≤ j) && decide (j ≤ 1000000) && decide (i.natAbs < 2 ^ 64)
def vPow := vIC cPow fun i j => .int (i ^ j.toNat)
/-- an operator with its clean operation -/
def OpC (X : Cx) (Γ : Gx) (W : WX) (f : Value → Value → Sem Value) (v : CV → CV → Hc → R CV) : Prop := ∃ r, OpR X f r ∧ VOp Γ W r v
theorem oc_sub : OpC X Γ W (binaryOp .Sub) vSub := ⟨_, op_sub, vop_I fun _ _ _ _ _ => repI⟩
theorem oc_mul : OpC X Γ W (binaryOp .Mult) vMul := ⟨_, op_mul, vop_IC (fun i j h => by
  unfold cMul at h
  simp only [Bool.or_eq_true, Bool.and_eq_true, decide_eq_true_eq] at h
  exact h) fun _ _ _ _ _ => repI⟩
theorem oc_div : OpC X Γ W (binaryOp .FloorDiv) vDiv := ⟨_, op_fdiv, vop_IC (fun i j h => by
  unfold cDiv at h
  simp only [Bool.and_eq_true, decide_eq_true_eq] at h
  exact h) fun _ _ _ _ _ => repI⟩
theorem oc_mod : OpC X Γ W (binaryOp .Mod) vMod := ⟨_, op_mod, vop_IC (fun i j h => of_decide_eq_true h) fun _ _ _ _ _ => repI⟩
theorem oc_pow : OpC X Γ W (binaryOp .Pow) vPow := ⟨_, op_pow, vop_IC (fun i j h => by
  unfold cPow at h
  simp only [Bool.and_eq_true, decide_eq_true_eq] at h
  exact ⟨h.1.1, h.1.2, h.2⟩) fun _ _ _ _ _ => repI⟩
theorem oc_lt : OpC X Γ W (compareOp .Lt) vLt := ⟨_, op_lt, vop_I fun _ _ _ _ _ => repB⟩
theorem oc_le : OpC X Γ W (compareOp .LtE) vLe := ⟨_, op_le, vop_I fun _ _ _ _ _ => repB⟩
theorem oc_gt : OpC X Γ W (compareOp .Gt) vGt := ⟨_, op_gt, vop_I fun _ _ _ _ _ => repB⟩
theorem oc_ge : OpC X Γ W (compareOp .GtE) vGe := ⟨_, op_ge, vop_I fun _ _ _ _ _ => repB⟩

/-! ### plus: ints, texts, lists, tuples -/
theorem sqT_of {ρ N H a vs} (h : insU ρ N H a (.tup vs)) : SqT Γ.K H a vs := .inl (.inl h.2)
theorem sqT_wr {H a vs} (h : WrT Γ.K a vs) : SqT Γ.K H a vs := .inr h
theorem sqL_of {ρ N H a vs} (h : RdU ρ N H a (.lst vs) ∨ WrL Γ.K a vs) : SqL Γ.K H a vs := h.imp (fun q => q.2) id
theorem Reps.len {ρ N H m} : ∀ {xs : List CV} {vs : List V}, Reps Γ ρ N H m xs vs → xs.length = vs.length
  | [], vs, h => by unfold Reps at h; subst h; rfl
  | x :: xs, vs, h => by
    unfold Reps at h
    obtain ⟨v, r, rfl, _, h2⟩ := h
    rw [List.length_cons, List.length_cons, Reps.len h2]
theorem Reps.app {ρ N H m} : ∀ {xs ys : List CV} {vs ws : List V}, Reps Γ ρ N H m xs vs → Reps Γ ρ N H m ys ws → Reps Γ ρ N H m (xs ++ ys) (vs ++ ws)
  | [], ys, vs, ws, h, h' => by unfold Reps at h; subst h; exact h'
  | x :: xs, ys, vs, ws, h, h' => by
    unfold Reps at h
    obtain ⟨v, r, rfl, h1, h2⟩ := h
    show Reps Γ ρ N H m (x :: (xs ++ ys)) (v :: (r ++ ws))
    unfold Reps
    exact ⟨v, _, rfl, h1, Reps.app h2 h'⟩
theorem Reps.get {ρ N H m} : ∀ {xs : List CV} {vs : List V} {i : Nat} {x : CV}, Reps Γ ρ N H m xs vs → xs[i]? = some x → ∃ v, vs[i]? = some v ∧ Rep Γ ρ N H m x v
  | [], vs, i, x, h, e => by simp at e
  | y :: xs, vs, 0, x, h, e => by
    unfold Reps at h
    obtain ⟨v, r, rfl, h1, h2⟩ := h
    simp at e; subst e
    exact ⟨v, rfl, h1⟩
  | y :: xs, vs, i + 1, x, h, e => by
    unfold Reps at h
    obtain ⟨v, r, rfl, h1, h2⟩ := h
    obtain ⟨w, e1, q⟩ := Reps.get h2 (i := i) (by simpa using e)
    exact ⟨w, by simpa using e1, q⟩
theorem Reps.none {ρ N H m} {xs : List CV} {vs : List V} {i : Nat} (h : Reps Γ ρ N H m xs vs) (e : xs[i]? = none) : vs.length ≤ i := by
  rw [← h.len]; exact List.getElem?_eq_none_iff.mp e
theorem Reps.one {ρ N H m} {x : CV} {vs : List V} (h : Reps Γ ρ N H m [x] vs) : ∃ v, vs = [v] ∧ Rep Γ ρ N H m x v := by
  unfold Reps at h
  obtain ⟨v, r, rfl, h1, h2⟩ := h
  unfold Reps at h2; subst h2
  exact ⟨v, rfl, h1⟩
theorem reps1 {ρ N H m} {x : CV} {v : V} (h : Rep Γ ρ N H m x v) : Reps Γ ρ N H m [x] [v] := by
  unfold Reps; exact ⟨v, [], rfl, h, by unfold Reps; rfl⟩
/-- a new tuple -/
theorem rep_newT {ρ : Nat → Addr} {F hp H p xs vs} (r : SRh Γ ρ F hp H) (h : H p = none) (q : Reps Γ ρ hp.N H hp.N xs vs) : Rep Γ ρ hp.N (upd H p (.tup vs)) hp.N (.tup xs) (.ref p) := by
  unfold Rep
  exact ⟨p, vs, rfl, ⟨r.fresh h, upd_same⟩, q.mono (step_new h) (Nat.le_refl _) (Nat.le_refl _)⟩
/-- a new list of the clean heap -/
theorem srh_newL {ρ : Nat → Addr} {F hp H p xs vs} (r : SRh Γ ρ F hp H) (h : H p = none) (q : Reps Γ ρ hp.N H hp.N xs vs) :
    SRh Γ (ext ρ hp.N p) F (hp.push (.lst xs)) (upd H p (.lst vs)) :=
  r.alloc h ⟨vs, upd_same, q.mono (step_alloc h) (Nat.le_refl _) (Nat.le_succ _)⟩
theorem rep_ref {ρ : Nat → Addr} {N p H} : Rep Γ (ext ρ N p) (N + 1) H (N + 1) (.ref N) (.ref p) := by
  unfold Rep
  exact ⟨Nat.lt_succ_self _, by rw [ext_at]⟩
def okLen (n : Nat) : Bool := decide (n ≤ 16777216)
theorem okLen_le {n : Nat} (h : okLen n = true) : n ≤ sizeLine := by rw [sizeLine_eq]; exact of_decide_eq_true h
def newL (xs : List CV) (hp : Hc) : R CV := if okLen xs.length = true then .ok (.ref hp.N) (hp.push (.lst xs)) else .stuck
theorem post_newL {σ ρ F hp H xs vs p} {Q : VK} (r : SRh Γ ρ F hp H) (q : Reps Γ ρ hp.N H hp.N xs vs) (h : H p = none) (w : Post Γ F W σ ρ hp.N H (reV Γ) (newL xs hp) Q) : Q (.ref p) (upd H p (.lst vs)) := by
  unfold newL at w
  split at w
  · refine w (ext ρ hp.N p) _ _ ?_ (srh_newL r h q) ?_
    · rw [Hc.push_N]; exact step_alloc h
    · rw [Hc.push_N]; exact rep_ref
  · exact w.elim
theorem newL_len {σ ρ F hp H xs N} {Q : VK} (w : Post Γ F W σ ρ N H (reV Γ) (newL xs hp) Q) : xs.length ≤ sizeLine := by
  unfold newL at w
  split at w
  · rename_i h; exact okLen_le h
  · exact w.elim
def listAt (hp : Hc) : CV → Option (List CV)
  | .ref n => match hp.os[n]? with
    | some (.lst xs) => some xs
    | _ => none
  | _ => none
theorem listAt_ok {ρ F hp H x xs v} (r : SRh Γ ρ F hp H) (h : Rep Γ ρ hp.N H hp.N x v) (e : listAt hp x = some xs) : ∃ n vs, x = .ref n ∧ hp.os[n]? = some (.lst xs) ∧ n < hp.N ∧ v = .ref (ρ n) ∧ H (ρ n) = some (.lst vs) ∧ Reps Γ ρ hp.N H hp.N xs vs := by
  unfold listAt at e
  split at e
  · rename_i n
    split at e
    · rename_i ys hy
      cases e
      unfold Rep at h
      obtain ⟨vs, h1, h2⟩ := r.obj n _ hy
      exact ⟨n, vs, rfl, hy, h.1, h.2, h1, h2⟩
    · cases e
  · cases e
/-- the items of a tuple -/
def tupItems : CV → Option (List CV)
  | .tup xs => some xs
  | .wtp xs => some xs
  | _ => none
theorem tupItems_ok {ρ N H m x xs v} (h : Rep Γ ρ N H m x v) (e : tupItems x = some xs) : ∃ a vs, v = .ref a ∧ SqT Γ.K H a vs ∧ Reps Γ ρ N H m xs vs := by
  unfold tupItems at e
  split at e
  · cases e
    unfold Rep at h
    obtain ⟨a, vs, rfl, h1, h2⟩ := h
    exact ⟨a, vs, rfl, sqT_of h1, h2⟩
  · cases e
    unfold Rep at h
    obtain ⟨a, vs, rfl, h1, h2⟩ := h
    exact ⟨a, vs, rfl, sqT_wr h1, h2.mono Step.refl (Nat.zero_le _) (Nat.zero_le _)⟩
  · cases e
def vAdd : CV → CV → Hc → R CV
  | .int i, .int j, hp => .ok (.int (i + j)) hp
  | .str a, .str b, hp => if okLen (a.length + b.length) = true then .ok (.str (a ++ b)) hp else .stuck
  | a, b, hp => match tupItems a, tupItems b with
    | some xs, some ys => if okLen (xs.length + ys.length) = true then (if xs.isEmpty then .ok b hp else if ys.isEmpty then .ok a hp else .ok (.tup (xs ++ ys)) hp) else .stuck
    | _, _ => match listAt hp a, listAt hp b with
      | some xs, some ys => newL (xs ++ ys) hp
      | _, _ => .stuck
theorem reps_nil {ρ N H m} {xs : List CV} {vs : List V} (h : Reps Γ ρ N H m xs vs) : xs.isEmpty = vs.isEmpty := by
  have l := h.len
  cases xs <;> cases vs <;> simp at l ⊢
theorem sOf_app (a b : List Nat) : sOf (a ++ b) = sOf a ++ sOf b := by
  show (⟨(a ++ b).toArray⟩ : Str) = ⟨a.toArray ++ b.toArray⟩
  simp
theorem sOf_len (a : List Nat) : (sOf a).length = a.length := by simp [sOf, Str.length]
theorem oc_add [S : Sx X Γ W k] : OpC X Γ W (binaryOp .Add) vAdd := by
  refine ⟨_, ((op_add.or op_add_str).or op_catA).or op_cat, ?_⟩
  intro σ ρ F hp H a b x y Q r ra rb p
  unfold vAdd at p
  split at p
  · unfold Rep at ra rb
    subst ra rb
    exact .inl (.inl (.inl ⟨_, _, rfl, rfl, p.ok r repI⟩))
  · unfold Rep at ra rb
    subst ra rb
    split at p
    · rename_i h
      refine .inl (.inl (.inr ⟨_, _, rfl, rfl, ?_, ?_⟩))
      · rw [sOf_len, sOf_len]; exact okLen_le h
      · have q := p.ok r repS
        rwa [sOf_app] at q
    · exact p.elim
  · split at p
    · rename_i xs ys e1 e2
      split at p
      · rename_i hl
        obtain ⟨p1, vs, rfl, a1, q1⟩ := tupItems_ok ra e1
        obtain ⟨p2, ws, rfl, a2, q2⟩ := tupItems_ok rb e2
        refine .inl (.inr ⟨p1, p2, vs, ws, rfl, rfl, S.K ▸ a1, S.K ▸ a2, ?_, ?_⟩)
        · rw [← q1.len, ← q2.len]; exact okLen_le hl
        · cases xs with
          | nil =>
            have e1' := reps_nil q1
            cases vs with
            | cons _ _ => cases e1'
            | nil => exact ⟨fun _ => p.ok r rb, fun h => absurd rfl h, fun h => absurd rfl h⟩
          | cons x xs =>
            have e1' := reps_nil q1
            cases vs with
            | nil => cases e1'
            | cons v vs =>
              refine ⟨fun h => (by cases h), ?_⟩
              cases ys with
              | nil =>
                have e2' := reps_nil q2
                cases ws with
                | cons _ _ => cases e2'
                | nil => exact ⟨fun _ _ => p.ok r ra, fun _ h => absurd rfl h⟩
              | cons y ys =>
                have e2' := reps_nil q2
                cases ws with
                | nil => cases e2'
                | cons w ws => exact ⟨fun _ h => (by cases h), fun _ _ l hl => p ρ _ _ (step_new hl) (r.new hl) (rep_newT r hl (q1.app q2))⟩
      · exact p.elim
    · split at p
      · rename_i xs ys e1 e2
        obtain ⟨n1, vs, rfl, _, _, rfl, h1, q1⟩ := listAt_ok r ra e1
        obtain ⟨n2, ws, rfl, _, _, rfl, h2, q2⟩ := listAt_ok r rb e2
        refine .inr ⟨_, _, vs, ws, rfl, rfl, h1, h2, ?_, fun p3 h3 => ?_⟩
        · have l := newL_len p
          rw [List.length_append, q1.len, q2.len] at l
          exact l
        · exact post_newL r (q1.app q2) h3 p
      · exact p.elim
end
end Bl

/-! Own layer, part E: equality, membership, indexing; tests; displays. -/
namespace Bl
open PySem PySem.Spec PyProof.Rows L2

/-! ### data -/
def pyL (g : CV → Option PyData) : List CV → Option (List PyData)
  | [] => some []
  | x :: r => match g x, pyL g r with
    | some y, some s => some (y :: s)
    | _, _ => none
def toPy (os : List CO) : Nat → CV → Option PyData
  | 0, _ => none
  | _ + 1, .non => some .none
  | _ + 1, .bl b => some (.bool b)
  | _ + 1, .int i => some (.int i)
  | _ + 1, .str s => some (.str (sOf s))
  | d + 1, .tup xs => (pyL (toPy os d) xs).map .tuple
  | d + 1, .wtp xs => (pyL (toPy os d) xs).map .tuple
  | d + 1, .lst xs => (pyL (toPy os d) xs).map .list
  | d + 1, .ref n => match os[n]? with
    | some (.lst xs) => (pyL (toPy os d) xs).map .list
    | _ => none
  | _ + 1, _ => none
section
variable {X : Cx} {Γ : Gx} {W : WX} {k : Nat}
theorem pyL_ok {ρ N H m} {g : CV → Option PyData} (hg : ∀ x d v, g x = some d → Rep Γ ρ N H m x v → Dp Γ.K H v d) : ∀ {xs : List CV} {ds : List PyData} {vs : List V}, pyL g xs = some ds → Reps Γ ρ N H m xs vs → DpAll Γ.K H vs ds
  | [], ds, vs, e, h => by
    unfold pyL at e; cases e
    unfold Reps at h; subst h
    exact .nil
  | x :: xs, ds, vs, e, h => by
    unfold pyL at e
    split at e
    · rename_i y s e1 e2
      cases e
      unfold Reps at h
      obtain ⟨v, r, rfl, h1, h2⟩ := h
      exact .cons (hg _ _ _ e1 h1) (pyL_ok hg e2 h2)
    · cases e
theorem toPy_ok {ρ F hp H} (r : SRh Γ ρ F hp H) : ∀ (d : Nat) (m : Nat) (x : CV) (y : PyData) (v : V), m ≤ hp.N → toPy hp.os d x = some y → Rep Γ ρ hp.N H m x v → Dp Γ.K H v y := by
  intro d
  induction d with
  | zero => intro m x y v _ e; simp [toPy] at e
  | succ d ih =>
    intro m x y v hm e h
    cases x with
    | non => simp only [toPy] at e; cases e; unfold Rep at h; subst h; exact .non
    | bl b => simp only [toPy] at e; cases e; unfold Rep at h; subst h; exact .bl b
    | int i => simp only [toPy] at e; cases e; unfold Rep at h; subst h; exact .int i
    | str s => simp only [toPy] at e; cases e; unfold Rep at h; subst h; exact .str _
    | tup xs =>
      simp only [toPy] at e
      cases q : pyL (toPy hp.os d) xs with
      | none => rw [q] at e; cases e
      | some ds =>
        rw [q] at e; cases e
        unfold Rep at h
        obtain ⟨a, vs, rfl, hr, hq⟩ := h
        exact .tup (sqT_of hr) (pyL_ok (fun x d' v q1 q2 => ih m x d' v hm q1 q2) q hq)
    | wtp xs =>
      simp only [toPy] at e
      cases q : pyL (toPy hp.os d) xs with
      | none => rw [q] at e; cases e
      | some ds =>
        rw [q] at e; cases e
        unfold Rep at h
        obtain ⟨a, vs, rfl, hr, hq⟩ := h
        exact .tup (sqT_wr hr) (pyL_ok (fun x d' v q1 q2 => ih 0 x d' v (Nat.zero_le _) q1 q2) q hq)
    | wdc _ => simp [toPy] at e
    | lst xs =>
      simp only [toPy] at e
      cases q : pyL (toPy hp.os d) xs with
      | none => rw [q] at e; cases e
      | some ds =>
        rw [q] at e; cases e
        unfold Rep at h
        obtain ⟨a, vs, rfl, hr, hq⟩ := h
        exact .lst (sqL_of hr) (pyL_ok (fun x d' v q1 q2 => ih 0 x d' v (Nat.zero_le _) q1 q2) q hq)
    | ref n =>
      simp only [toPy] at e
      split at e
      · rename_i xs he
        cases q : pyL (toPy hp.os d) xs with
        | none => rw [q] at e; cases e
        | some ds =>
          rw [q] at e; cases e
          unfold Rep at h
          obtain ⟨_, rfl⟩ := h
          obtain ⟨vs, h1, h2⟩ := r.obj n _ he
          exact .lst (.inl (.inl h1)) (pyL_ok (fun x d' v q1 q2 => ih hp.N x d' v (Nat.le_refl _) q1 q2) q h2)
      · cases e
    | dct _ _ => simp [toPy] at e
    | ins _ _ => simp [toPy] at e

def eqN : List Nat → List Nat → Bool
  | [], [] => true
  | a :: x, b :: y => Nat.beq a b && eqN x y
  | _, _ => false
theorem eqN_iff : ∀ {a b : List Nat}, eqN a b = true ↔ a = b
  | [], [] => by simp [eqN]
  | [], _ :: _ => by simp [eqN]
  | _ :: _, [] => by simp [eqN]
  | a :: x, b :: y => by
    unfold eqN
    rw [Bool.and_eq_true, eqN_iff, Nat.beq_eq, List.cons.injEq]
theorem eqN_dec (a b : List Nat) : eqN a b = decide (a = b) := by
  by_cases h : a = b
  · rw [decide_eq_true h]; exact eqN_iff.mpr h
  · rw [decide_eq_false h, ← Bool.not_eq_true]; exact fun q => h (eqN_iff.mp q)
theorem sOf_inj {a b : List Nat} : sOf a = sOf b ↔ a = b := by
  constructor
  · intro h
    have h1 : (sOf a).cps.toList = (sOf b).cps.toList := by rw [h]
    exact h1
  · intro h; rw [h]
/-- a scalar's answer -/
def eqS : CV → CV → Option Bool
  | .int i, .int j => some (decide (i = j))
  | .str s, .str t => some (eqN s t)
  | .bl a, .bl b => some (a == b)
  | .non, .non => some true
  | .non, .int _ => some false | .int _, .non => some false | .non, .bl _ => some false | .bl _, .non => some false | .non, .str _ => some false | .str _, .non => some false
  | .int _, .str _ => some false | .str _, .int _ => some false | .bl _, .str _ => some false | .str _, .bl _ => some false
  | _, _ => none
def eqD (os : List CO) (a b : CV) : Option Bool := match toPy os 12 a, toPy os 12 b with
  | some d, some e => if (SeqAt.shaped d && SeqAt.shaped e) = true then some (PyData.eqv d e) else none
  | _, _ => none
def eqC (os : List CO) (a b : CV) : Option Bool := match eqS a b with
  | some r => some r
  | none => eqD os a b
def vEq (neg : Bool) : CV → CV → Hc → R CV := fun a b hp => match eqC hp.os a b with
  | some r => .ok (.bl (if neg then !r else r)) hp
  | none => .stuck
theorem dec_sOf (a b : List Nat) : decide (V.str (sOf a) = V.str (sOf b)) = eqN a b := by
  rw [eqN_dec]
  by_cases h : a = b
  · rw [decide_eq_true h, h]; exact decide_eq_true rfl
  · rw [decide_eq_false h]; exact decide_eq_false fun q => h (sOf_inj.mp (V.str.inj q))
theorem eqS_ok {ρ N H m} {a b : CV} {x y : V} {r : Bool} (e : eqS a b = some r) (ha : Rep Γ ρ N H m a x) (hb : Rep Γ ρ N H m b y) : scal x y = true ∧ r = decide (x = y) := by
  cases a <;> cases b <;> simp only [eqS, Option.some.injEq, reduceCtorEq] at e <;> (unfold Rep at ha hb; subst e ha hb; refine ⟨rfl, ?_⟩) <;> first
    | rfl
    | exact (decide_eq_false (fun q => by cases q)).symm
    | exact (dec_sOf _ _).symm
    | exact dec_int.symm
    | exact dec_bl.symm
    | skip
  all_goals (rw [dec_int]; rename_i i j; by_cases h : i = j <;> simp [h])
def negB (neg b : Bool) : Bool := if neg then !b else b
theorem vop_eqS [S : Sx X Γ W k] : VOp Γ W (fun x y H Q => rEq x y H Q ∨ rEqD X.K x y H Q) (vEq false) := by
  intro σ ρ F hp H a b x y Q r ra rb p
  unfold vEq at p
  split at p
  · rename_i res e
    have q := p.ok r repB
    unfold eqC at e
    split at e
    · rename_i r' e'
      cases e
      obtain ⟨h1, h2⟩ := eqS_ok e' ra rb
      subst h2
      exact .inl ⟨h1, q⟩
    · unfold eqD at e
      split at e
      · rename_i d1 d2 e1 e2
        split at e
        · rename_i hs
          cases e
          rw [Bool.and_eq_true] at hs
          exact .inr ⟨d1, d2, S.K ▸ toPy_ok r 12 _ a d1 x (Nat.le_refl _) e1 ra, S.K ▸ toPy_ok r 12 _ b d2 y (Nat.le_refl _) e2 rb, hs.1, hs.2, q⟩
        · cases e
      · cases e
  · exact p.elim
theorem vop_neS [S : Sx X Γ W k] : VOp Γ W (fun x y H Q => rNe x y H Q ∨ rNeD X.K x y H Q) (vEq true) := by
  intro σ ρ F hp H a b x y Q r ra rb p
  unfold vEq at p
  split at p
  · rename_i res e
    have q := p.ok r repB
    unfold eqC at e
    split at e
    · rename_i r' e'
      cases e
      obtain ⟨h1, h2⟩ := eqS_ok e' ra rb
      subst h2
      exact .inl ⟨h1, q⟩
    · unfold eqD at e
      split at e
      · rename_i d1 d2 e1 e2
        split at e
        · rename_i hs
          cases e
          rw [Bool.and_eq_true] at hs
          exact .inr ⟨d1, d2, S.K ▸ toPy_ok r 12 _ a d1 x (Nat.le_refl _) e1 ra, S.K ▸ toPy_ok r 12 _ b d2 y (Nat.le_refl _) e2 rb, hs.1, hs.2, q⟩
        · cases e
      · cases e
  · exact p.elim
theorem oc_eq [S : Sx X Γ W k] : OpC X Γ W (compareOp .Eq) (vEq false) := ⟨_, op_eq.or (op_eqD S.room.units), vop_eqS⟩
theorem oc_ne [S : Sx X Γ W k] : OpC X Γ W (compareOp .NotEq) (vEq true) := ⟨_, op_ne.or (op_neD S.room.units), vop_neS⟩
/-! ### is None -/
def vIsN (neg : Bool) : CV → CV → Hc → R CV
  | a, .non, hp => match a with
    | .non => .ok (.bl (!neg)) hp
    | _ => .ok (.bl neg) hp
  | _, _, _ => .stuck
theorem rep_non {ρ N H m} {a : CV} {x : V} (h : Rep Γ ρ N H m a x) : decide (x = .non) = (match a with | .non => true | _ => false) := by
  cases a with
  | non => unfold Rep at h; subst h; rfl
  | bl _ => unfold Rep at h; subst h; rfl
  | int _ => unfold Rep at h; subst h; rfl
  | str _ => unfold Rep at h; subst h; rfl
  | ref _ => unfold Rep at h; obtain ⟨_, rfl⟩ := h; rfl
  | tup _ => unfold Rep at h; obtain ⟨_, _, rfl, _⟩ := h; rfl
  | wtp _ => unfold Rep at h; obtain ⟨_, _, rfl, _⟩ := h; rfl
  | wdc _ => unfold Rep at h; subst h; rfl
  | lst _ => unfold Rep at h; obtain ⟨_, _, rfl, _⟩ := h; rfl
  | dct t _ => cases t <;> (unfold Rep at h; obtain ⟨_, _, rfl, _⟩ := h; rfl)
  | ins _ _ => unfold Rep at h; obtain ⟨_, _, _, rfl, _⟩ := h; rfl
theorem oc_isN : OpC X Γ W (compareOp .Is) (vIsN false) := ⟨_, op_isN, fun σ ρ F hp H a b x y Q r ra rb p => by
  unfold vIsN at p
  split at p
  · unfold Rep at rb
    subst rb
    have e := rep_non ra
    refine ⟨rfl, ?_⟩
    split at p
    · rw [e]; exact p.ok r repB
    · rename_i h
      rw [e]
      split
      · rename_i z; exact absurd rfl h
      · exact p.ok r repB
  · exact p.elim⟩
theorem oc_isntN : OpC X Γ W (compareOp .IsNot) (vIsN true) := ⟨_, op_notN, fun σ ρ F hp H a b x y Q r ra rb p => by
  unfold vIsN at p
  split at p
  · unfold Rep at rb
    subst rb
    have e := rep_non ra
    refine ⟨rfl, ?_⟩
    split at p
    · rw [e]; exact p.ok r repB
    · rename_i h
      rw [e]
      split
      · rename_i z; exact absurd rfl h
      · exact p.ok r repB
  · exact p.elim⟩

/-! ### in: flat items -/
def flatC : CV → Bool
  | .non => true
  | .bl _ => true
  | .int _ => true
  | .str _ => true
  | _ => false
def eqF : CV → CV → Bool
  | .non, .non => true
  | .bl a, .bl b => a == b
  | .bl a, .int b => decide ((if a then 1 else 0) = b)
  | .int a, .bl b => decide (a = (if b then 1 else 0))
  | .int a, .int b => decide (a = b)
  | .str a, .str b => eqN a b
  | _, _ => false
theorem flat_rep {ρ N H m} {a : CV} {x : V} (f : flatC a = true) (h : Rep Γ ρ N H m a x) : flatV x = true := by
  cases a <;> simp only [flatC, Bool.false_eq_true] at f <;> (unfold Rep at h; subst h; rfl)
theorem eqF_rep {ρ N H m} {a b : CV} {x y : V} (fa : flatC a = true) (fb : flatC b = true) (ha : Rep Γ ρ N H m a x) (hb : Rep Γ ρ N H m b y) : eqF a b = eqV x y := by
  cases a <;> simp only [flatC, Bool.false_eq_true] at fa <;> cases b <;> simp only [flatC, Bool.false_eq_true] at fb <;> (unfold Rep at ha hb; subst ha hb) <;> first
    | rfl
    | (show decide _ = (_ == _); rw [Bool.beq_eq_decide_eq])
    | skip
  rename_i s t
  show eqN s t = (sOf s == sOf t)
  rw [eqN_dec, Bool.beq_eq_decide_eq]
  exact decide_eq_decide.mpr sOf_inj.symm
theorem all_flat {ρ N H m} : ∀ {xs : List CV} {vs : List V}, xs.all flatC = true → Reps Γ ρ N H m xs vs → vs.all flatV = true
  | [], vs, _, h => by unfold Reps at h; subst h; rfl
  | x :: xs, vs, f, h => by
    unfold Reps at h
    obtain ⟨v, r, rfl, h1, h2⟩ := h
    rw [List.all_cons, Bool.and_eq_true] at f ⊢
    exact ⟨flat_rep f.1 h1, all_flat f.2 h2⟩
theorem any_eqF {ρ N H m m'} {a : CV} {x : V} (fa : flatC a = true) (ha : Rep Γ ρ N H m' a x) : ∀ {xs : List CV} {vs : List V}, xs.all flatC = true → Reps Γ ρ N H m xs vs → (xs.any fun y => eqF y a) = inV x vs
  | [], vs, _, h => by unfold Reps at h; subst h; rfl
  | y :: xs, vs, f, h => by
    unfold Reps at h
    obtain ⟨v, r, rfl, h1, h2⟩ := h
    rw [List.all_cons, Bool.and_eq_true] at f
    have ih := any_eqF fa ha f.2 h2
    unfold inV at ih ⊢
    rw [List.any_cons, List.any_cons, ih]
    have e : eqF y a = eqV v x := by
      cases y <;> simp only [flatC, Bool.false_eq_true, false_and] at f <;> cases a <;> simp only [flatC, Bool.false_eq_true] at fa <;> (unfold Rep at h1 ha; subst h1 ha) <;> first
        | rfl
        | (show decide _ = (_ == _); rw [Bool.beq_eq_decide_eq])
        | skip
      rename_i s t
      show eqN s t = (sOf s == sOf t)
      rw [eqN_dec, Bool.beq_eq_decide_eq]
      exact decide_eq_decide.mpr sOf_inj.symm
    rw [e]
def seqItems (hp : Hc) : CV → Option (List CV)
  | .tup xs => some xs
  | .wtp xs => some xs
  | .lst xs => some xs
  | .ref n => match hp.os[n]? with
    | some (.lst xs) => some xs
    | _ => none
  | _ => none
theorem seqItems_ok {ρ F hp H b xs y} (r : SRh Γ ρ F hp H) (e : seqItems hp b = some xs) (h : Rep Γ ρ hp.N H hp.N b y) : ∃ p vs, y = .ref p ∧ (SqL Γ.K H p vs ∨ SqT Γ.K H p vs) ∧ Reps Γ ρ hp.N H hp.N xs vs := by
  unfold seqItems at e
  split at e
  · cases e
    unfold Rep at h
    obtain ⟨a, vs, rfl, h1, h2⟩ := h
    exact ⟨a, vs, rfl, .inr (sqT_of h1), h2⟩
  · cases e
    unfold Rep at h
    obtain ⟨a, vs, rfl, h1, h2⟩ := h
    exact ⟨a, vs, rfl, .inr (sqT_wr h1), h2.mono Step.refl (Nat.zero_le _) (Nat.zero_le _)⟩
  · cases e
    unfold Rep at h
    obtain ⟨a, vs, rfl, h1, h2⟩ := h
    exact ⟨a, vs, rfl, .inl (sqL_of h1), h2.mono Step.refl (Nat.zero_le _) (Nat.zero_le _)⟩
  · split at e
    · rename_i he
      cases e
      unfold Rep at h
      obtain ⟨_, rfl⟩ := h
      obtain ⟨vs, h1, h2⟩ := r.obj _ _ he
      exact ⟨_, vs, rfl, .inl (.inl (.inl h1)), h2⟩
    · cases e
  · cases e
def vInS (neg : Bool) : CV → CV → Hc → R CV := fun a b hp => match seqItems hp b with
  | some xs => if (flatC a && xs.all flatC) = true then .ok (.bl (if neg then !xs.any fun y => eqF y a else xs.any fun y => eqF y a)) hp else .stuck
  | none => .stuck
theorem vop_in [S : Sx X Γ W k] (neg : Bool) : VOp Γ W (rIn X.K neg) (vInS neg) := by
  intro σ ρ F hp H a b x y Q r ra rb p
  unfold vInS at p
  split at p
  · rename_i xs e
    split at p
    · rename_i f
      rw [Bool.and_eq_true] at f
      obtain ⟨q, vs, rfl, h1, h2⟩ := seqItems_ok r e rb
      refine ⟨q, vs, rfl, S.K ▸ h1, flat_rep f.1 ra, all_flat f.2 h2, ?_⟩
      rw [← any_eqF f.1 ra f.2 h2]
      exact p.ok r repB
    · exact p.elim
  · exact p.elim
theorem oc_inS [S : Sx X Γ W k] : OpC X Γ W (compareOp .In) (vInS false) := ⟨_, op_in_seq, vop_in false⟩
theorem oc_ninS [S : Sx X Γ W k] : OpC X Γ W (compareOp .NotIn) (vInS true) := ⟨_, op_notIn_seq, vop_in true⟩

/-! ### a[i] -/
def vIx : CV → CV → Hc → R CV
  | .str s, .int i, hp => if okLen s.length = true then (match atI s i with
    | some c => .ok (.str [c]) hp
    | none => .stuck) else .stuck
  | a, .int i, hp => match seqItems hp a with
    | some xs => match atI xs i with
      | some v => .ok v hp
      | none => .stuck
    | none => .stuck
  | _, _, _ => .stuck
theorem atI_rep {ρ N H m} {xs : List CV} {vs : List V} {i : Int} {x : CV} (h : Reps Γ ρ N H m xs vs) (e : atI xs i = some x) : ∃ v, atI vs i = some v ∧ Rep Γ ρ N H m x v := by
  unfold atI at e ⊢
  rw [← h.len]
  cases q : ixN xs.length i with
  | none => rw [q] at e; cases e
  | some j =>
    rw [q] at e
    exact h.get e
theorem vop_ix [S : Sx X Γ W k] : VOp Γ W (rIx X.K) vIx := by
  intro σ ρ F hp H a b x y Q r ra rb p
  unfold vIx at p
  split at p
  · rename_i s i
    unfold Rep at ra rb
    subst ra rb
    split at p
    · rename_i hl
      split at p
      · rename_i c hc
        refine .inr (.inr ⟨_, _, c, rfl, rfl, ?_, hc, ?_⟩)
        · rw [sOf_len]; exact okLen_le hl
        · exact p.ok r (repS (s := [c]))
      · exact p.elim
    · exact p.elim
  · split at p
    · rename_i xs e
      split at p
      · rename_i v hv
        unfold Rep at rb
        subst rb
        obtain ⟨q, vs, rfl, h1, h2⟩ := seqItems_ok r e ra
        obtain ⟨w, e1, h3⟩ := atI_rep h2 hv
        rcases h1 with h1 | h1
        · exact .inl ⟨q, vs, _, w, rfl, rfl, S.K ▸ h1, e1, p.ok r h3⟩
        · exact .inr (.inl ⟨q, vs, _, w, rfl, rfl, S.K ▸ h1, e1, p.ok r h3⟩)
      · exact p.elim
    · exact p.elim
  · exact p.elim
theorem sim_ix [S : Sx X Γ W k] {a b : Expr} {ma mb : M CV} {pos : Pos} (ha : SimE X Γ W a ma) (hb : SimE X Γ W b mb) (hs : PlainIx b := by exact fun _ _ => rfl) : SimE X Γ W (.Subscript a b pos) (e2 vIx ma mb) :=
  pe_imp (pe_ix ix_seq ha hb hs) fun _ _ _ h => e2_op vop_ix h
end
end Bl

/-! Own layer, part F: tests, and / or / not, chains, displays, arguments, calls of built-ins. -/
namespace Bl
open PySem PySem.Spec PyProof.Rows L2
section
variable {X : Cx} {Γ : Gx} {W : WX} {k : Nat} {a b c : Expr} {ma mb mc : M CV} {ta tb tc : M Bool} {pos : Pos}

theorem sim_op {op : Operator} {v : CV → CV → Hc → R CV} (o : OpC X Γ W (binaryOp op) v) (ha : SimE X Γ W a ma) (hb : SimE X Γ W b mb) : SimE X Γ W (.BinOp a op b pos) (e2 v ma mb) := by
  obtain ⟨r, h1, h2⟩ := o
  exact pe_imp (pe_op h1 ha hb) fun _ _ _ h => e2_op h2 h
theorem sim_cmp {op : CmpOp} {v : CV → CV → Hc → R CV} (o : OpC X Γ W (compareOp op) v) (ha : SimE X Γ W a ma) (hb : SimE X Γ W b mb) (hm : behindInMarks op b = false := by rfl) : SimE X Γ W (.Compare a [op] [b] pos) (e2 v ma mb) := by
  obtain ⟨r, h1, h2⟩ := o
  exact pe_imp (pe_cmpR h1 ha hb hm) fun _ _ _ h => e2_op h2 h

/-- a value as a test's answer -/
def asB : CV → Hc → R Bool
  | .bl b, hp => .ok b hp
  | _, _ => .stuck
def tV (m : M CV) : M Bool := fun env hp => (m env hp).bind asB
theorem asB_ok {σ ρ F hp H v x} {Q : Bool → Hp → Prop} (r : SRh Γ ρ F hp H) (h : Rep Γ ρ hp.N H hp.N v x) (p : Post Γ F W σ ρ hp.N H reB (asB v hp) Q) : ∃ d, x = .bl d ∧ Q d H := by
  unfold asB at p
  split at p
  · unfold Rep at h; subst h
    exact ⟨_, rfl, p.ok r rfl⟩
  · exact p.elim
theorem tV_val {m : M CV} {σ H} {Q : Bool → Hp → Prop} (h : rd Γ W reB (tV m) σ H Q) : rd Γ W (reV Γ) m σ H fun x H' => ∃ d, x = .bl d ∧ Q d H' := by
  obtain ⟨ρ, F, hp, env, r0, e0, p⟩ := h
  refine rd_mono (rd_next (re := reV Γ) r0 e0 p) fun x H1 ⟨ρ1, hp1, v, s1, r1, e1, h1, p1⟩ => ?_
  exact asB_ok r1 h1 p1
theorem sim_tcmp {op : CmpOp} {v : CV → CV → Hc → R CV} (o : OpC X Γ W (compareOp op) v) (ha : SimE X Γ W a ma) (hb : SimE X Γ W b mb) (hm : behindInMarks op b = false := by rfl) : SimT X Γ W (.Compare a [op] [b] pos) (tV (e2 v ma mb)) := by
  obtain ⟨r, h1, h2⟩ := o
  exact pt_imp (pt_cmpR h1 ha hb hm) fun _ _ _ h => e2_op h2 (tV_val h)
/-- any expression whose test is its value's truth -/
theorem sim_tv (h : SimE X Γ W a ma) (he : ∀ whole, isTrue a X.env whole = (do let v ← whole; standAt a.pos; holding [v] (truthy v)) := by intro _; rfl) : SimT X Γ W a (tV ma) :=
  pt_imp (pt_val h he) fun _ _ _ q => tV_val q

/-! ### and, or, not -/
def tAnd2 (a b : M Bool) : M Bool := fun env hp => (a env hp).bind fun c hp => if c then b env hp else .ok false hp
def tOr2 (a b : M Bool) : M Bool := fun env hp => (a env hp).bind fun c hp => if c then .ok true hp else b env hp
def tNot1 (a : M Bool) : M Bool := fun env hp => (a env hp).bind fun c hp => .ok (!c) hp
abbrev SimW (X : Cx) (Γ : Gx) (W : WX) (e : Expr) (m : M Bool) : Prop := PW X e (rd Γ W reB m)
theorem sw_and1 (ha : SimT X Γ W a ta) : SimW X Γ W (.BoolOp .And [a] pos) ta := pw_and1 ha
theorem sw_or1 (ha : SimT X Γ W a ta) : SimW X Γ W (.BoolOp .Or [a] pos) ta := pw_or1 ha
theorem sw_and {rest : List Expr} (ha : SimT X Γ W a ta) (hb : SimW X Γ W (.BoolOp .And (b :: rest) pos) tb) : SimW X Γ W (.BoolOp .And (a :: b :: rest) pos) (tAnd2 ta tb) :=
  pw_imp (pw_and ha hb) fun σ H Q h => by
    obtain ⟨ρ, F, hp, env, r0, e0, p⟩ := h
    refine rd_mono (rd_next (re := reB) r0 e0 p) fun x H1 ⟨ρ1, hp1, v, s1, r1, e1, h1, p1⟩ => ?_
    cases (show v = x from h1)
    cases x with
    | true => exact ⟨ρ1, F, hp1, env, r1, e1, p1⟩
    | false => exact p1.ok r1 rfl
theorem sw_or {rest : List Expr} (ha : SimT X Γ W a ta) (hb : SimW X Γ W (.BoolOp .Or (b :: rest) pos) tb) : SimW X Γ W (.BoolOp .Or (a :: b :: rest) pos) (tOr2 ta tb) :=
  pw_imp (pw_or ha hb) fun σ H Q h => by
    obtain ⟨ρ, F, hp, env, r0, e0, p⟩ := h
    refine rd_mono (rd_next (re := reB) r0 e0 p) fun x H1 ⟨ρ1, hp1, v, s1, r1, e1, h1, p1⟩ => ?_
    cases (show v = x from h1)
    cases x with
    | true => exact p1.ok r1 rfl
    | false => exact ⟨ρ1, F, hp1, env, r1, e1, p1⟩
theorem sim_tnot (ha : SimT X Γ W a ta) : SimT X Γ W (.UnaryOp .Not a pos) (tNot1 ta) :=
  pt_imp (pt_not ha) fun σ H Q h => by
    obtain ⟨ρ, F, hp, env, r0, e0, p⟩ := h
    refine rd_mono (rd_next (re := reB) r0 e0 p) fun x H1 ⟨ρ1, hp1, v, s1, r1, e1, h1, p1⟩ => ?_
    cases (show v = x from h1)
    exact p1.ok r1 rfl
/-- .. as values -/
def eAnd2 (a b : M CV) : M CV := fun env hp => (a env hp).bind fun v hp => match v with
  | .bl true => b env hp
  | .bl false => .ok (.bl false) hp
  | _ => .stuck
def eOr2 (a b : M CV) : M CV := fun env hp => (a env hp).bind fun v hp => match v with
  | .bl false => b env hp
  | .bl true => .ok (.bl true) hp
  | _ => .stuck
def eNot1 (a : M CV) : M CV := fun env hp => (a env hp).bind fun v hp => match v with
  | .bl b => .ok (.bl (!b)) hp
  | _ => .stuck
theorem sim_b1 {op} (ha : SimE X Γ W a ma) : SimE X Γ W (.BoolOp op [a] pos) ma := pe_one ha
theorem sim_and {rest : List Expr} (ha : SimE X Γ W a ma) (hb : SimE X Γ W (.BoolOp .And (b :: rest) pos) mb) : SimE X Γ W (.BoolOp .And (a :: b :: rest) pos) (eAnd2 ma mb) :=
  pe_imp (pe_and ha hb) fun σ H Q h => by
    obtain ⟨ρ, F, hp, env, r0, e0, p⟩ := h
    refine rd_mono (rd_next (re := reV Γ) r0 e0 p) fun x H1 ⟨ρ1, hp1, v, s1, r1, e1, h1, p1⟩ => ?_
    split at p1
    · unfold Rep at h1; subst h1
      exact ⟨true, rfl, ρ1, F, hp1, env, r1, e1, p1⟩
    · unfold Rep at h1; subst h1
      exact ⟨false, rfl, p1.ok r1 repB⟩
    · exact p1.elim
theorem sim_or {rest : List Expr} (ha : SimE X Γ W a ma) (hb : SimE X Γ W (.BoolOp .Or (b :: rest) pos) mb) : SimE X Γ W (.BoolOp .Or (a :: b :: rest) pos) (eOr2 ma mb) :=
  pe_imp (pe_or ha hb) fun σ H Q h => by
    obtain ⟨ρ, F, hp, env, r0, e0, p⟩ := h
    refine rd_mono (rd_next (re := reV Γ) r0 e0 p) fun x H1 ⟨ρ1, hp1, v, s1, r1, e1, h1, p1⟩ => ?_
    split at p1
    · unfold Rep at h1; subst h1
      exact ⟨false, rfl, ρ1, F, hp1, env, r1, e1, p1⟩
    · unfold Rep at h1; subst h1
      exact ⟨true, rfl, p1.ok r1 repB⟩
    · exact p1.elim
theorem sim_not (ha : SimE X Γ W a ma) : SimE X Γ W (.UnaryOp .Not a pos) (eNot1 ma) :=
  pe_imp (pe_not ha) fun σ H Q h => by
    obtain ⟨ρ, F, hp, env, r0, e0, p⟩ := h
    refine rd_mono (rd_next (re := reV Γ) r0 e0 p) fun x H1 ⟨ρ1, hp1, v, s1, r1, e1, h1, p1⟩ => ?_
    split at p1
    · unfold Rep at h1; subst h1
      exact ⟨_, rfl, p1.ok r1 repB⟩
    · exact p1.elim
def eNeg (a : M CV) : M CV := fun env hp => (a env hp).bind fun v hp => match v with
  | .int i => .ok (.int (-i)) hp
  | _ => .stuck
theorem sim_neg (ha : SimE X Γ W a ma) : SimE X Γ W (.UnaryOp .USub a pos) (eNeg ma) :=
  pe_imp (pe_un un_neg ha) fun σ H Q h => by
    obtain ⟨ρ, F, hp, env, r0, e0, p⟩ := h
    refine rd_mono (rd_next (re := reV Γ) r0 e0 p) fun x H1 ⟨ρ1, hp1, v, s1, r1, e1, h1, p1⟩ => ?_
    split at p1
    · unfold Rep at h1; subst h1
      exact ⟨_, rfl, p1.ok r1 repI⟩
    · exact p1.elim
/-- x if t else y -/
def eIf (c : M Bool) (a b : M CV) : M CV := fun env hp => (c env hp).bind fun d hp => if d then a env hp else b env hp
theorem sim_if (hc : SimT X Γ W c tc) (ha : SimE X Γ W a ma) (hb : SimE X Γ W b mb) : SimE X Γ W (.IfExp c a b pos) (eIf tc ma mb) :=
  pe_imp (pe_ifExp hc ha hb) fun σ H Q h => by
    obtain ⟨ρ, F, hp, env, r0, e0, p⟩ := h
    refine rd_mono (rd_next (re := reB) r0 e0 p) fun x H1 ⟨ρ1, hp1, v, s1, r1, e1, h1, p1⟩ => ?_
    cases (show v = x from h1)
    cases x with
    | true => exact ⟨ρ1, F, hp1, env, r1, e1, p1⟩
    | false => exact ⟨ρ1, F, hp1, env, r1, e1, p1⟩
/-- a < b < c -/
def eChain (v v' : CV → CV → Hc → R CV) (a b c : M CV) : M CV := fun env hp => (a env hp).bind fun x hp => (b env hp).bind fun y hp => (v x y hp).bind fun z hp => match z with
  | .bl true => (c env hp).bind fun w hp => v' y w hp
  | .bl false => .ok (.bl false) hp
  | _ => .stuck
theorem Post.mono {α β : Type} {F : List Nat} {σ : L2.St} {ρ : Nat → Addr} {N : Nat} {H : Hp} {re : Re α β} {r : R α} {Q Q' : β → Hp → Prop} (h : Post Γ F W σ ρ N H re r Q) (i : ∀ x H, Q x H → Q' x H) : Post Γ F W σ ρ N H re r Q' := by
  cases r with
  | ok v hp' => exact fun ρ' H' x s r e => i x H' (h ρ' H' x s r e)
  | exc c fs hp' => exact h
  | stuck => exact h
theorem chain_ok {r r' : R2} {v v' : CV → CV → Hc → R CV} (o : VOp Γ W r v) (o' : VOp Γ W r' v') {σ H} {Q : VK} (h : rd Γ W (reV Γ) (eChain v v' ma mb mc) σ H Q) :
    tChain r r' (rd Γ W (reV Γ) ma) (rd Γ W (reV Γ) mb) (rd Γ W (reV Γ) mc) σ H Q := by
  obtain ⟨ρ, F, hp, env, r0, e0, p⟩ := h
  refine rd_mono (rd_next (re := reV Γ) r0 e0 p) fun x H1 ⟨ρ1, hp1, a, s1, r1, e1, h1, p1⟩ => ?_
  refine rd_mono (rd_next (re := reV Γ) r1 e1 p1) fun y H2 ⟨ρ2, hp2, b, s2, r2, e2, h2, p2⟩ => ?_
  refine o σ ρ2 F hp2 H2 a b x y _ r2 (h1.mono s2 (Nat.le_refl _) s2.le) h2 (Post.mono (Post.bind (re := reV Γ) p2) fun z H3 ⟨ρ3, hp3, w, s3, r3, h3, p3⟩ => ?_)
  split at p3
  · have h3' : Rep Γ ρ3 hp3.N H3 hp3.N (.bl true) z := h3
    unfold Rep at h3'
    subst h3'
    refine ⟨true, rfl, ?_⟩
    rw [if_pos rfl]
    refine rd_mono (rd_next (re := reV Γ) r3 (e2.mono s3) p3) fun u H4 ⟨ρ4, hp4, d, s4, r4, e4, h4, p4⟩ => ?_
    exact o' σ ρ4 F hp4 H4 b d y u Q r4 (h2.mono (s3.trans s4) (Nat.le_refl _) (s3.trans s4).le) h4 p4
  · have h3' : Rep Γ ρ3 hp3.N H3 hp3.N (.bl false) z := h3
    unfold Rep at h3'
    subst h3'
    refine ⟨false, rfl, ?_⟩
    rw [if_neg Bool.false_ne_true]
    exact p3.ok r3 repB
  · exact p3.elim
theorem sim_chain {o1 o2 : CmpOp} {v v' : CV → CV → Hc → R CV} (o : OpC X Γ W (compareOp o1) v) (o' : OpC X Γ W (compareOp o2) v') (ha : SimE X Γ W a ma) (hb : SimE X Γ W b mb) (hc : SimE X Γ W c mc)
    (hm : lastMarks [o1, o2] [b, c] = false := by with_unfolding_all rfl) : SimE X Γ W (.Compare a [o1, o2] [b, c] pos) (eChain v v' ma mb mc) := by
  obtain ⟨r, q1, q2⟩ := o
  obtain ⟨r', q1', q2'⟩ := o'
  exact pe_imp (pe_chain q1 q1' ha hb hc hm) fun _ _ _ h => chain_ok q2 q2' h
theorem sim_tchain {o1 o2 : CmpOp} {v v' : CV → CV → Hc → R CV} (o : OpC X Γ W (compareOp o1) v) (o' : OpC X Γ W (compareOp o2) v') (ha : SimE X Γ W a ma) (hb : SimE X Γ W b mb) (hc : SimE X Γ W c mc)
    (hm : lastMarks [o1, o2] [b, c] = false := by with_unfolding_all rfl) : SimT X Γ W (.Compare a [o1, o2] [b, c] pos) (tV (eChain v v' ma mb mc)) := by
  obtain ⟨r, q1, q2⟩ := o
  obtain ⟨r', q1', q2'⟩ := o'
  exact pt_imp (pt_chain q1 q1' ha hb hc hm) fun _ _ _ h => chain_ok q2 q2' (tV_val h)

/-! ### arguments, displays -/
def evA : List (M CV) → M (List CV)
  | [] => fun _ hp => .ok [] hp
  | m :: r => fun env hp => (m env hp).bind fun v hp => (evA r env hp).bind fun vs hp => .ok (v :: vs) hp
theorem sim_nil : SimA X Γ W [] (evA []) := pa_imp pa_nil fun σ H Q h => by
  obtain ⟨ρ, F, hp, env, r0, e0, p⟩ := h
  exact p.ok r0 (by unfold Reps; rfl)
theorem sim_cons {e : Expr} {es : List Expr} {m : M CV} {ms : List (M CV)} (h : SimE X Γ W e m) (hr : SimA X Γ W es (evA ms)) (hs : starEach (e :: es) X.env = (false, eval e X.env) :: starEach es X.env := by rfl) : SimA X Γ W (e :: es) (evA (m :: ms)) :=
  pa_imp (pa_cons h hr hs) fun σ H Q q => by
    obtain ⟨ρ, F, hp, env, r0, e0, p⟩ := q
    refine rd_mono (rd_next (re := reV Γ) r0 e0 p) fun x H1 ⟨ρ1, hp1, v, s1, r1, e1, h1, p1⟩ => ?_
    refine rd_mono (rd_next (re := reA Γ) r1 e1 p1) fun xs H2 ⟨ρ2, hp2, vs, s2, r2, e2, h2, p2⟩ => ?_
    refine p2.ok r2 ?_
    show Reps Γ ρ2 hp2.N H2 hp2.N (v :: vs) (x :: xs)
    unfold Reps
    exact ⟨x, xs, rfl, h1.mono s2 (Nat.le_refl _) s2.le, h2⟩
def eTup (ms : List (M CV)) : M CV := fun env hp => (evA ms env hp).bind fun vs hp => if okLen vs.length = true then .ok (.tup vs) hp else .stuck
theorem sim_tup {es : List Expr} {ms : List (M CV)} {j} (h : SimA X Γ W es (evA ms)) : SimE X Γ W (.Tuple es j pos) (eTup ms) :=
  pe_imp (pe_tup h) fun σ H Q q => by
    obtain ⟨ρ, F, hp, env, r0, e0, p⟩ := q
    refine rd_mono (rd_next (re := reA Γ) r0 e0 p) fun xs H1 ⟨ρ1, hp1, vs, s1, r1, e1, h1, p1⟩ => ?_
    split at p1
    · rename_i hl
      refine ⟨by rw [← h1.len]; exact okLen_le hl, fun p h => ?_⟩
      exact p1 ρ1 _ _ (step_new h) (r1.new h) (rep_newT r1 h h1)
    · exact p1.elim
def eLst (ms : List (M CV)) : M CV := fun env hp => (evA ms env hp).bind newL
theorem sim_lst {es : List Expr} {ms : List (M CV)} (h : SimA X Γ W es (evA ms)) : SimE X Γ W (.List es pos) (eLst ms) :=
  pe_imp (pe_lst h) fun σ H Q q => by
    obtain ⟨ρ, F, hp, env, r0, e0, p⟩ := q
    refine rd_mono (rd_next (re := reA Γ) r0 e0 p) fun xs H1 ⟨ρ1, hp1, vs, s1, r1, e1, h1, p1⟩ => ?_
    exact ⟨by rw [← h1.len]; exact newL_len p1, fun p h => post_newL r1 h1 h p1⟩

/-! ### built-ins by values -/
def VCall (Γ : Gx) (W : WX) (r : List V → Hp → VK → Prop) (f : List CV → Hc → R CV) : Prop := ∀ (σ : L2.St) (ρ : Nat → Addr) (F : List Nat) (hp : Hc) (H : Hp) (as : List CV) (xs : List V) (Q : VK),
  SRh Γ ρ F hp H → Reps Γ ρ hp.N H hp.N as xs → Post Γ F W σ ρ hp.N H (reV Γ) (f as hp) Q → r xs H Q
def CallC (X : Cx) (Γ : Gx) (W : WX) (f : Value) (v : List CV → Hc → R CV) : Prop := ∃ r, CallR X f r ∧ VCall Γ W r v
def eBi (f : List CV → Hc → R CV) (ms : List (M CV)) : M CV := fun env hp => (evA ms env hp).bind f
theorem eBi_ok {r : List V → Hp → VK → Prop} {f : List CV → Hc → R CV} (v : VCall Γ W r f) {ms : List (M CV)} {σ H} {Q : VK} (q : rd Γ W (reV Γ) (eBi f ms) σ H Q) : tCB r (rd Γ W (reA Γ) (evA ms)) σ H Q := by
  obtain ⟨ρ, F, hp, env, r0, e0, p⟩ := q
  refine rd_mono (rd_next (re := reA Γ) r0 e0 p) fun xs H1 ⟨ρ1, hp1, vs, s1, r1, e1, h1, p1⟩ => ?_
  exact v σ ρ1 F hp1 H1 vs xs Q r1 h1 p1
theorem sim_bi {x : Str} {p : Pos} {e : Expr} {es : List Expr} {id : String} {f : List CV → Hc → R CV} {ms : List (M CV)} (o : CallC X Γ W (.builtin id) f) (hg : Gl X x) (hm : X.mg x = none) (hv : bootBuiltins x = some (.builtin id)) (ha : SimA X Γ W (e :: es) (evA ms))
    (hn : x ≠ "__name__" := by decide) (hdb : (x == ("__debug__" : Str)) = false := by decide) (he : starEach (e :: es) X.env = (false, eval e X.env) :: starEach es X.env := by rfl) (hpl : (backTo pos (starEach es X.env)).any (·.1) = false := by rfl) :
    SimE X Γ W (.Call (.Name x p) (e :: es) [] pos) (eBi f ms) := by
  obtain ⟨r, h1, h2⟩ := o
  exact pe_imp (pe_callB h1 hg hm hv ha hn hdb he hpl) fun _ _ _ q => eBi_ok h2 q
theorem sim_ty {x : Str} {p : Pos} {e : Expr} {es : List Expr} {T : String} {f : List CV → Hc → R CV} {ms : List (M CV)} (o : CallC X Γ W (.type T) f) (hg : Gl X x) (hm : X.mg x = none) (hv : bootBuiltins x = some (.type T)) (ha : SimA X Γ W (e :: es) (evA ms))
    (hn : x ≠ "__name__" := by decide) (hdb : (x == ("__debug__" : Str)) = false := by decide) (he : starEach (e :: es) X.env = (false, eval e X.env) :: starEach es X.env := by rfl) (hpl : (backTo pos (starEach es X.env)).any (·.1) = false := by rfl) :
    SimE X Γ W (.Call (.Name x p) (e :: es) [] pos) (eBi f ms) := by
  obtain ⟨r, h1, h2⟩ := o
  exact pe_imp (pe_callTy h1 hg hm hv ha hn hdb he hpl) fun _ _ _ q => eBi_ok h2 q
theorem reps_two {ρ N H m} {x y : CV} {vs : List V} (h : Reps Γ ρ N H m [x, y] vs) : ∃ v w, vs = [v, w] ∧ Rep Γ ρ N H m x v ∧ Rep Γ ρ N H m y w := by
  unfold Reps at h
  obtain ⟨v, r, rfl, h1, h2⟩ := h
  obtain ⟨w, rfl, h3⟩ := h2.one
  exact ⟨v, w, rfl, h1, h3⟩
def bAbs : List CV → Hc → R CV
  | [.int i], hp => .ok (.int (if i < 0 then -i else i)) hp
  | _, _ => .stuck
theorem bc_abs : CallC X Γ W (.builtin "abs") bAbs := ⟨_, call_abs, fun σ ρ F hp H as xs Q r h p => by
  unfold bAbs at p
  split at p
  · obtain ⟨v, rfl, h1⟩ := h.one
    unfold Rep at h1; subst h1
    exact ⟨_, rfl, p.ok r repI⟩
  · exact p.elim⟩
def bMax2 : List CV → Hc → R CV
  | [.int i, .int j], hp => .ok (.int (if j > i then j else i)) hp
  | _, _ => .stuck
theorem bc_max2 [S : Sx X Γ W k] : CallC X Γ W (.builtin "max") bMax2 := ⟨_, call_max2 S.calm, fun σ ρ F hp H as xs Q r h p => by
  unfold bMax2 at p
  split at p
  · obtain ⟨v, w, rfl, h1, h2⟩ := reps_two h
    unfold Rep at h1 h2; subst h1 h2
    exact ⟨_, _, rfl, p.ok r repI⟩
  · exact p.elim⟩
def bMin2 : List CV → Hc → R CV
  | [.int i, .int j], hp => .ok (.int (if j < i then j else i)) hp
  | _, _ => .stuck
theorem bc_min2 [S : Sx X Γ W k] : CallC X Γ W (.builtin "min") bMin2 := ⟨_, call_min2 S.calm, fun σ ρ F hp H as xs Q r h p => by
  unfold bMin2 at p
  split at p
  · obtain ⟨v, w, rfl, h1, h2⟩ := reps_two h
    unfold Rep at h1 h2; subst h1 h2
    exact ⟨_, _, rfl, p.ok r repI⟩
  · exact p.elim⟩
def bInt : List CV → Hc → R CV
  | [.int i], hp => .ok (.int i) hp
  | [.bl b], hp => .ok (.int (if b then 1 else 0)) hp
  | _, _ => .stuck
theorem bc_int : CallC X Γ W (.type "int") bInt := ⟨_, call_int1, fun σ ρ F hp H as xs Q r h p => by
  unfold bInt at p
  split at p
  · obtain ⟨v, rfl, h1⟩ := h.one
    unfold Rep at h1; subst h1
    exact .inl ⟨_, rfl, p.ok r repI⟩
  · obtain ⟨v, rfl, h1⟩ := h.one
    unfold Rep at h1; subst h1
    exact .inr ⟨_, rfl, p.ok r repI⟩
  · exact p.elim⟩
def bLen : List CV → Hc → R CV
  | [.str s], hp => if okLen s.length = true then .ok (.int s.length) hp else .stuck
  | [x], hp => match seqItems hp x with
    | some xs => .ok (.int xs.length) hp
    | none => .stuck
  | _, _ => .stuck
theorem bc_len [S : Sx X Γ W k] : CallC X Γ W (.builtin "len") bLen := ⟨_, call_len, fun σ ρ F hp H as xs Q r h p => by
  unfold bLen at p
  split at p
  · obtain ⟨v, rfl, h1⟩ := h.one
    unfold Rep at h1; subst h1
    split at p
    · rename_i hl
      refine ⟨_, _, rfl, ⟨by rw [sOf_len]; exact okLen_le hl, rfl⟩, ?_⟩
      rw [sOf_len]; exact p.ok r repI
    · exact p.elim
  · obtain ⟨v, rfl, h1⟩ := h.one
    split at p
    · rename_i e
      obtain ⟨q, vs, rfl, h2, h3⟩ := seqItems_ok r e h1
      refine ⟨_, vs.length, rfl, ?_, ?_⟩
      · rcases h2 with h2 | h2
        · exact .inl ⟨vs, S.K ▸ h2, rfl⟩
        · exact .inr ⟨vs, S.K ▸ h2, rfl⟩
      · rw [← h3.len]; exact p.ok r repI
    · exact p.elim
  · exact p.elim⟩
/-- tuple(x), list(x) of a list or tuple -/
def bTuple : List CV → Hc → R CV
  | [x], hp => match x with
    | .tup xs => .ok (.tup xs) hp
    | .wtp xs => .ok (.wtp xs) hp
    | _ => match seqItems hp x with
      | some xs => .ok (.tup xs) hp
      | none => .stuck
  | _, _ => .stuck
theorem seqItems_list {ρ F hp H b xs y} (r : SRh Γ ρ F hp H) (hn : ∀ ys, b ≠ .tup ys) (hw : ∀ ys, b ≠ .wtp ys) (e : seqItems hp b = some xs) (h : Rep Γ ρ hp.N H hp.N b y) : ∃ p vs, y = .ref p ∧ SqL Γ.K H p vs ∧ Reps Γ ρ hp.N H hp.N xs vs := by
  unfold seqItems at e
  split at e
  · exact absurd rfl (hn _)
  · exact absurd rfl (hw _)
  · cases e
    unfold Rep at h
    obtain ⟨a, vs, rfl, h1, h2⟩ := h
    exact ⟨a, vs, rfl, sqL_of h1, h2.mono Step.refl (Nat.zero_le _) (Nat.zero_le _)⟩
  · split at e
    · rename_i he
      cases e
      unfold Rep at h
      obtain ⟨_, rfl⟩ := h
      obtain ⟨vs, h1, h2⟩ := r.obj _ _ he
      exact ⟨_, vs, rfl, .inl (.inl h1), h2⟩
    · cases e
  · cases e
theorem bc_tuple [S : Sx X Γ W k] : CallC X Γ W (.type "tuple") bTuple := ⟨_, call_tuple_of, fun σ ρ F hp H as xs Q r h p => by
  unfold bTuple at p
  split at p
  · obtain ⟨v, rfl, h1⟩ := h.one
    split at p
    · have h1' := h1
      unfold Rep at h1
      obtain ⟨a, vs, rfl, h2, h3⟩ := h1
      exact ⟨a, vs, rfl, .inr ⟨S.K ▸ sqT_of h2, p.ok r h1'⟩⟩
    · have h1' := h1
      unfold Rep at h1
      obtain ⟨a, vs, rfl, h2, h3⟩ := h1
      exact ⟨a, vs, rfl, .inr ⟨S.K ▸ sqT_wr h2, p.ok r h1'⟩⟩
    · rename_i hn hw
      split at p
      · rename_i e
        obtain ⟨q, vs, rfl, h2, h3⟩ := seqItems_list r (fun ys z => hn ys z) (fun ys z => hw ys z) e h1
        exact ⟨q, vs, rfl, .inl ⟨S.K ▸ h2, fun l hl => p ρ _ _ (step_new hl) (r.new hl) (rep_newT r hl h3)⟩⟩
      · exact p.elim
  · exact p.elim⟩
def bList : List CV → Hc → R CV
  | [x], hp => match seqItems hp x with
    | some xs => newL xs hp
    | none => .stuck
  | _, _ => .stuck
theorem bc_list [S : Sx X Γ W k] : CallC X Γ W (.type "list") bList := ⟨_, call_list_of, fun σ ρ F hp H as xs Q r h p => by
  unfold bList at p
  split at p
  · obtain ⟨v, rfl, h1⟩ := h.one
    split at p
    · rename_i e
      obtain ⟨q, vs, rfl, h2, h3⟩ := seqItems_ok r e h1
      exact ⟨q, vs, rfl, S.K ▸ h2, fun l hl => post_newL r h3 hl p⟩
    · exact p.elim
  · exact p.elim⟩
end
end Bl

/-! Own layer, part G: statements, targets, what is walked, for, while. -/
namespace Bl
open PySem PySem.Spec PyProof.Rows L2

def PostS (Γ : Gx) (F : List Nat) (W : WX) (ρ : Nat → Addr) (N : Nat) (H : Hp) (r : RS) (D : Ends) : Prop := match r with
  | .ok f hp' => match f with
    | .nx env => ∀ ρ' H' σ', Step ρ N H ρ' hp'.N H' → SRh Γ ρ' F hp' H' → SRe Γ ρ' hp'.N H' σ' env → D.nx σ' H'
    | .rt v => ∀ ρ' H' x, Step ρ N H ρ' hp'.N H' → SRh Γ ρ' F hp' H' → Rep Γ ρ' hp'.N H' hp'.N v x → D.rt x H'
    | .bk env => ∀ ρ' H' σ', Step ρ N H ρ' hp'.N H' → SRh Γ ρ' F hp' H' → SRe Γ ρ' hp'.N H' σ' env → D.bk σ' H'
    | .ct env => ∀ ρ' H' σ', Step ρ N H ρ' hp'.N H' → SRh Γ ρ' F hp' H' → SRe Γ ρ' hp'.N H' σ' env → D.ct σ' H'
    | .ex c fs env => ∀ ρ' H' σ' d, Step ρ N H ρ' hp'.N H' → SRh Γ ρ' F hp' H' → ExcR Γ ρ' hp'.N H' fs d → SRe Γ ρ' hp'.N H' σ' env → W (.ref (Γ.cl c)) d σ' H'
  | .stuck => False
def rdS (Γ : Gx) (W : WX) (m : MS) : TS := fun D σ H => ∃ ρ F hp env, SRh Γ ρ F hp H ∧ SRe Γ ρ hp.N H σ env ∧ PostS Γ F W ρ hp.N H (m env hp) D
abbrev SimS (X : Cx) (Γ : Gx) (W : WX) (s : Stmt) (m : MS) : Prop := PS X s (rdS Γ W m)
abbrev SimSs (X : Cx) (Γ : Gx) (W : WX) (s : List Stmt) (m : MS) : Prop := PSs X s (rdS Γ W m)
section
variable {X : Cx} {Γ : Gx} {W : WX} {k : Nat} {F : List Nat} {ρ ρ' : Nat → Addr} {N N' : Nat} {H H' : Hp} {σ : L2.St} {env : En} {hp : Hc} {D : Ends}
theorem PostS.step {r : RS} (st : Step ρ N H ρ' N' H') (h : PostS Γ F W ρ N H r D) : PostS Γ F W ρ' N' H' r D := by
  cases r with
  | stuck => exact h
  | ok f hp' =>
    cases f with
    | nx env => exact fun ρ2 H2 σ2 s r e => h ρ2 H2 σ2 (st.trans s) r e
    | rt v => exact fun ρ2 H2 σ2 s r e => h ρ2 H2 σ2 (st.trans s) r e
    | bk env => exact fun ρ2 H2 σ2 s r e => h ρ2 H2 σ2 (st.trans s) r e
    | ct env => exact fun ρ2 H2 σ2 s r e => h ρ2 H2 σ2 (st.trans s) r e
    | ex c fs env => exact fun ρ2 H2 σ2 d s r e q => h ρ2 H2 σ2 d (st.trans s) r e q
theorem PostS.nx (h : PostS Γ F W ρ hp.N H (.ok (.nx env) hp) D) (r : SRh Γ ρ F hp H) (e : SRe Γ ρ hp.N H σ env) : D.nx σ H := h ρ H σ Step.refl r e
/-- an expression within a statement -/
def RS.of {α : Type} (r : R α) (env : En) (f : α → Hc → RS) : RS := match r with
  | .ok v hp => f v hp
  | .exc c fs hp => .ok (.ex c fs env) hp
  | .stuck => .stuck
theorem PostS.of {α β : Type} {re : Re α β} {r : R α} {f : α → Hc → RS} (e : SRe Γ ρ N H σ env) (h : PostS Γ F W ρ N H (RS.of r env f) D) :
    Post Γ F W σ ρ N H re r (fun x H1 => ∃ ρ1 hp1 a, Step ρ N H ρ1 hp1.N H1 ∧ SRh Γ ρ1 F hp1 H1 ∧ SRe Γ ρ1 hp1.N H1 σ env ∧ re ρ1 hp1.N H1 a x ∧ PostS Γ F W ρ1 hp1.N H1 (f a hp1) D) := by
  cases r with
  | ok v hp' => exact fun ρ' H' x s r e' => ⟨ρ', hp', v, s, r, e.mono s, e', PostS.step s h⟩
  | exc c fs hp' => exact fun ρ' H' d s r q => h ρ' H' σ d s r q (e.mono s)
  | stuck => exact h
theorem rdS_first {α β : Type} {re : Re α β} {m : M α} {f : En → α → Hc → RS} (h : rdS Γ W (fun env hp => RS.of (m env hp) env (f env)) D σ H) :
    ∃ F env, rd Γ W re m σ H fun x H1 => ∃ ρ1 hp1 a, SRh Γ ρ1 F hp1 H1 ∧ SRe Γ ρ1 hp1.N H1 σ env ∧ re ρ1 hp1.N H1 a x ∧ PostS Γ F W ρ1 hp1.N H1 (f env a hp1) D := by
  obtain ⟨ρ, F, hp, env, r, e, p⟩ := h
  refine ⟨F, env, ρ, F, hp, env, r, e, ?_⟩
  exact Post.mono (PostS.of (re := re) e p) fun x H1 ⟨ρ1, hp1, a, _, r1, e1, h1, p1⟩ => ⟨ρ1, hp1, a, r1, e1, h1, p1⟩
theorem rdS_next {α β : Type} {re : Re α β} {m : M α} {f : α → Hc → RS} (r : SRh Γ ρ F hp H) (e : SRe Γ ρ hp.N H σ env) (p : PostS Γ F W ρ hp.N H (RS.of (m env hp) env f) D) :
    rd Γ W re m σ H fun x H1 => ∃ ρ1 hp1 a, Step ρ hp.N H ρ1 hp1.N H1 ∧ SRh Γ ρ1 F hp1 H1 ∧ SRe Γ ρ1 hp1.N H1 σ env ∧ re ρ1 hp1.N H1 a x ∧ PostS Γ F W ρ1 hp1.N H1 (f a hp1) D :=
  ⟨ρ, F, hp, env, r, e, PostS.of (re := re) e p⟩

/-! ### blocks -/
def sNil : MS := fun env hp => .ok (.nx env) hp
def sSeq (a b : MS) : MS := fun env hp => match a env hp with
  | .ok (.nx env') hp' => b env' hp'
  | r => r
theorem sim_snil : SimSs X Γ W [] sNil := pss_imp pss_nil fun D σ H h => by
  obtain ⟨ρ, F, hp, env, r, e, p⟩ := h
  exact p.nx r e
theorem seq_ok {a b : MS} (h : rdS Γ W (sSeq a b) D σ H) : rdS Γ W a { D with nx := rdS Γ W b D } σ H := by
  obtain ⟨ρ, F, hp, env, r, e, p⟩ := h
  refine ⟨ρ, F, hp, env, r, e, ?_⟩
  unfold sSeq at p
  revert p
  generalize a env hp = z
  intro p
  cases z with
  | stuck => exact p
  | ok f hp' =>
    cases f with
    | nx env' => exact fun ρ' H' σ' s r' e' => ⟨ρ', F, hp', env', r', e', PostS.step s p⟩
    | rt v => exact p
    | bk env => exact p
    | ct env => exact p
    | ex c fs env => exact p
theorem sim_seq {st : Stmt} {rest : List Stmt} {a b : MS} (h1 : SimS X Γ W st a) (h2 : SimSs X Γ W rest b) : SimSs X Γ W (st :: rest) (sSeq a b) := pss_imp (pss_cons h1 h2) fun _ _ _ h => seq_ok h
theorem sim_s1 {st : Stmt} {a : MS} (h1 : SimS X Γ W st a) : SimSs X Γ W [st] a := pss_one h1
theorem sim_pass {pos} : SimS X Γ W (.Pass pos) sNil := ps_imp ps_pass fun D σ H h => by
  obtain ⟨ρ, F, hp, env, r, e, p⟩ := h
  exact p.nx r e
def sBrk : MS := fun env hp => .ok (.bk env) hp
def sCnt : MS := fun env hp => .ok (.ct env) hp
theorem sim_brk {pos} : SimS X Γ W (.Break pos) sBrk := ps_imp ps_break fun D σ H h => by
  obtain ⟨ρ, F, hp, env, r, e, p⟩ := h
  exact p ρ H σ Step.refl r e
theorem sim_cnt {pos} : SimS X Γ W (.Continue pos) sCnt := ps_imp ps_continue fun D σ H h => by
  obtain ⟨ρ, F, hp, env, r, e, p⟩ := h
  exact p ρ H σ Step.refl r e
def sRet (m : M CV) : MS := fun env hp => RS.of (m env hp) env fun v hp => .ok (.rt v) hp
theorem sim_ret {e : Expr} {m : M CV} {pos} (h : SimE X Γ W e m) : SimS X Γ W (.Return (some e) pos) (sRet m) := ps_imp (ps_ret h) fun D σ H q => by
  obtain ⟨F, env, q⟩ := rdS_first (re := reV Γ) q
  exact rd_mono q fun x H1 ⟨ρ1, hp1, a, r1, e1, h1, p1⟩ => p1 ρ1 H1 x Step.refl r1 h1
def sRetN : MS := fun _ hp => .ok (.rt .non) hp
theorem sim_retN {pos} : SimS X Γ W (.Return none pos) sRetN := ps_imp ps_retN fun D σ H h => by
  obtain ⟨ρ, F, hp, env, r, e, p⟩ := h
  exact p ρ H _ Step.refl r repN
def sExp (m : M CV) : MS := fun env hp => RS.of (m env hp) env fun _ hp => .ok (.nx env) hp
theorem sim_exp {e : Expr} {m : M CV} {pos : Pos} (h : SimE X Γ W e m) (hs : swapsWith e none pos.line X.env = pure false := by rfl) : SimS X Γ W (.Expr e pos) (sExp m) := ps_imp (ps_expr h hs) fun D σ H q => by
  obtain ⟨F, env, q⟩ := rdS_first (re := reV Γ) q
  exact rd_mono q fun x H1 ⟨ρ1, hp1, a, r1, e1, h1, p1⟩ => p1.nx r1 e1
def sIf (c : M Bool) (a b : MS) : MS := fun env hp => RS.of (c env hp) env fun d hp => if d then a env hp else b env hp
theorem sim_sif {c : Expr} {x y : List Stmt} {tc : M Bool} {a b : MS} {pos} (hc : SimT X Γ W c tc) (ha : SimSs X Γ W x a) (hb : SimSs X Γ W y b) : SimS X Γ W (.If c x y pos) (sIf tc a b) := ps_imp (ps_if hc ha hb) fun D σ H q => by
  obtain ⟨F, env, q⟩ := rdS_first (re := reB) q
  refine rd_mono q fun x H1 ⟨ρ1, hp1, v, r1, e1, h1, p1⟩ => ?_
  cases (show v = x from h1)
  cases x with
  | true => exact ⟨ρ1, F, hp1, env, r1, e1, p1⟩
  | false => exact ⟨ρ1, F, hp1, env, r1, e1, p1⟩

/-! ### targets -/
theorem SRe.set {v : CV} {x : V} (e : SRe Γ ρ N H σ env) (h : Rep Γ ρ N H N v x) (i : Nat) : SRe Γ ρ N H (σ.set i (some x)) (env.set i (some v)) := by
  refine ⟨by rw [List.length_set, List.length_set]; exact e.len, fun j w q => ?_⟩
  by_cases hij : i = j
  · subst hij
    by_cases hl : i < env.length
    · rw [List.getElem?_set_self hl] at q
      cases q
      exact ⟨x, by rw [List.getElem?_set_self (by rw [e.len]; exact hl)], h⟩
    · rw [List.getElem?_eq_none (by rw [List.length_set]; omega)] at q; cases q
  · rw [List.getElem?_set_ne hij] at q ⊢
    exact e.get j w q
structure Tgt where
  sl : List Nat
  f : CV → En → Option En
structure Tgts where
  sl : List Nat
  f : List CV → En → Option En
/-- the same off some slots -/
def Agr (sl : List Nat) (σ σ' : L2.St) : Prop := σ'.length = σ.length ∧ ∀ j : Nat, j ∉ sl → σ'[j]? = σ[j]?
theorem Agr.refl {sl : List Nat} {σ : L2.St} : Agr sl σ σ := ⟨rfl, fun _ _ => rfl⟩
theorem Agr.trans {sl sl' : List Nat} {σ σ1 σ2 : L2.St} (a : Agr sl σ σ1) (b : Agr sl' σ1 σ2) : Agr (sl ++ sl') σ σ2 :=
  ⟨b.1.trans a.1, fun j h => (b.2 j fun z => h (List.mem_append_right _ z)).trans (a.2 j fun z => h (List.mem_append_left _ z))⟩
theorem Agr.set {i : Nat} {σ : L2.St} {v : Option V} : Agr [i] σ (σ.set i v) :=
  ⟨List.length_set, fun j h => List.getElem?_set_ne fun z => h (by rw [z]; exact List.mem_singleton_self j)⟩
def rdG (Γ : Gx) (t : Tgt) : TG := fun v σ H Q => ∃ ρ F hp env cv env', SRh Γ ρ F hp H ∧ SRe Γ ρ hp.N H σ env ∧ Rep Γ ρ hp.N H hp.N cv v ∧ t.f cv env = some env' ∧ ∀ σ', SRe Γ ρ hp.N H σ' env' → Agr t.sl σ σ' → Q σ' H
def rdGs (Γ : Gx) (t : Tgts) : TGs := fun vs σ H Q => ∃ ρ F hp env cvs env', SRh Γ ρ F hp H ∧ SRe Γ ρ hp.N H σ env ∧ Reps Γ ρ hp.N H hp.N cvs vs ∧ t.f cvs env = some env' ∧ ∀ σ', SRe Γ ρ hp.N H σ' env' → Agr t.sl σ σ' → Q σ' H
abbrev SimG (X : Cx) (Γ : Gx) (e : Expr) (t : Tgt) : Prop := PG X e (rdG Γ t)
abbrev SimGs (X : Cx) (Γ : Gx) (es : List Expr) (t : Tgts) : Prop := PGs X es (rdGs Γ t)
theorem pg_imp {e : Expr} {t t' : TG} (h : PG X e t) (i : ∀ v σ H Q, t' v σ H Q → t v σ H Q) : PG X e t' := ⟨fun pins s σ H v u Q I r q => h.run pins s σ H v u Q I r (i v σ H Q q)⟩
theorem pgs_imp {e : List Expr} {t t' : TGs} (h : PGs X e t) (i : ∀ v σ H Q, t' v σ H Q → t v σ H Q) : PGs X e t' := ⟨fun pins s σ H v u Q I r q => h.run pins s σ H v u Q I r (i v σ H Q q)⟩
def gNm (i : Nat) : Tgt := ⟨[i], fun v env => some (env.set i (some v))⟩
theorem sim_gname [S : Sx X Γ W k] {i : Nat} {x : Str} {pos} (hi : X.N[i]? = some x) (hx : Loc X.env.scope x) (hf : X.fn x = true ∨ X.env.scope.names.lookup x = some .local := by first | exact .inl rfl | exact .inr rfl) : SimG X Γ (.Name x pos) (gNm i) :=
  pg_imp (pg_name S.nd hi hx hf) fun v σ H Q h => by
    obtain ⟨ρ, F, hp, env, cv, env', r, e, hr, ht, hq⟩ := h
    cases ht
    exact hq _ (e.set hr i) Agr.set
def gsNil : Tgts := ⟨[], fun vs env => match vs with
  | [] => some env
  | _ :: _ => none⟩
def gsCons (t : Tgt) (u : Tgts) : Tgts := ⟨t.sl ++ u.sl, fun vs env => match vs with
  | v :: r => match t.f v env with
    | some env' => u.f r env'
    | none => none
  | [] => none⟩
theorem sim_gsnil : SimGs X Γ [] gsNil := pgs_imp pgs_nil fun v σ H Q h => by
  obtain ⟨ρ, F, hp, env, cvs, env', r, e, hr, ht, hq⟩ := h
  cases cvs with
  | nil =>
    cases ht
    unfold Reps at hr
    exact ⟨hr, hq _ e Agr.refl⟩
  | cons _ _ => cases ht
theorem sim_gscons {e : Expr} {es : List Expr} {t : Tgt} {u : Tgts} (h1 : SimG X Γ e t) (h2 : SimGs X Γ es u)
    (hs : (assignEach (e :: es) X.env).map (·.2) = assign e X.env :: (assignEach es X.env).map (·.2) := by rfl) : SimGs X Γ (e :: es) (gsCons t u) := pgs_imp (pgs_cons h1 h2 hs) fun v σ H Q h => by
  obtain ⟨ρ, F, hp, env, cvs, env', r, e, hr, ht, hq⟩ := h
  cases cvs with
  | nil => cases ht
  | cons c cr =>
    unfold Reps at hr
    obtain ⟨x, xs, rfl, q1, q2⟩ := hr
    have ht' : (match t.f c env with | some env' => u.f cr env' | none => none) = some env' := ht
    clear ht
    split at ht'
    · rename_i env1 he
      exact ⟨x, xs, rfl, ρ, F, hp, env, c, env1, r, e, q1, he, fun σ' e' a' => ⟨ρ, F, hp, env1, cr, env', r, e', q2, ht', fun σ2 e2 a2 => hq σ2 e2 (a'.trans a2)⟩⟩
    · cases ht'
def gTp (n : Nat) (u : Tgts) : Tgt := ⟨u.sl, fun v env => match tupItems v with
  | some xs => if xs.length = n then u.f xs env else none
  | none => none⟩
theorem sim_gtup [S : Sx X Γ W k] {es : List Expr} {j : Nat} {u : Tgts} {n : Nat} {pos} (h : SimGs X Γ es u)
    (hn : (assignEach es X.env).length = n := by rfl) (hst : (assignEach es X.env).findIdx? (·.1) = none := by rfl) : SimG X Γ (.Tuple es j pos) (gTp n u) :=
  pg_imp (pg_tup S.calm h hn hst) fun v σ H Q h => by
    obtain ⟨ρ, F, hp, env, cv, env', r, e, hr, ht, hq⟩ := h
    have ht' : (match tupItems cv with | some xs => if xs.length = n then u.f xs env else none | none => none) = some env' := ht
    split at ht'
    · rename_i xs he
      split at ht'
      · rename_i hl
        obtain ⟨a, vs, rfl, q1, q2⟩ := tupItems_ok hr he
        exact ⟨a, vs, rfl, S.K ▸ q1, by rw [← q2.len]; exact hl, ρ, F, hp, env, _, env', r, e, q2, ht', hq⟩
      · cases ht'
    · cases ht'
/-- target = value -/
def sAsg (t : Tgt) (m : M CV) : MS := fun env hp => RS.of (m env hp) env fun v hp => match t.f v env with
  | some env' => .ok (.nx env') hp
  | none => .stuck
theorem asg_ok {t : Tgt} {m : M CV} (q : rdS Γ W (sAsg t m) D σ H) : tAsg (rd Γ W (reV Γ) m) (rdG Γ t) D σ H := by
  obtain ⟨F, env, q⟩ := rdS_first (re := reV Γ) q
  refine rd_mono q fun x H1 ⟨ρ1, hp1, a, r1, e1, h1, p1⟩ => ?_
  split at p1
  · rename_i env' he
    exact ⟨ρ1, F, hp1, env, a, env', r1, e1, h1, he, fun σ' e' _ => p1.nx r1 e'⟩
  · exact p1.elim
theorem sim_set [S : Sx X Γ W k] {i : Nat} {x : Str} {e : Expr} {m : M CV} {pos pos' : Pos} (he : SimE X Γ W e m) (hi : X.N[i]? = some x) (hx : Loc X.env.scope x)
    (hs : swapsWith e (some (.Name x pos')) pos.line X.env = pure false := by rfl) (hf : X.fn x = true ∨ X.env.scope.names.lookup x = some .local := by first | exact .inl rfl | exact .inr rfl) : SimS X Γ W (.Assign [.Name x pos'] e pos) (sAsg (gNm i) m) :=
  ps_imp (ps_set S.nd hi hx he hs hf) fun D σ H q => by
    obtain ⟨F, env, q⟩ := rdS_first (re := reV Γ) q
    refine rd_mono q fun x H1 ⟨ρ1, hp1, a, r1, e1, h1, p1⟩ => ?_
    exact p1.nx r1 (e1.set h1 i)
theorem sim_asg {tg e : Expr} {m : M CV} {t : Tgt} {pos : Pos} (he : SimE X Γ W e m) (hg : SimG X Γ tg t) (hs : swapsWithSole [tg] e pos.line X.env = pure false := by rfl) (hw : swappedStores [tg] e X.env = pure none := by rfl)
    (h1 : (assignEach [tg] X.env).map (·.2) = [assign tg X.env] := by rfl) : SimS X Γ W (.Assign [tg] e pos) (sAsg t m) := ps_imp (ps_asg he hg hs hw h1) fun _ _ _ q => asg_ok q
/-- x, y = a, b -/
def sPar (i j : Nat) (ms : List (M CV)) : MS := fun env hp => RS.of (evA ms env hp) env fun vs hp => match vs with
  | [v, w] => .ok (.nx ((env.set i (some v)).set j (some w))) hp
  | _ => .stuck
theorem sim_par [S : Sx X Γ W k] {i j : Nat} {x y : Str} {a b : Expr} {ms : List (M CV)} {px py pt : Pos} {kt k2 : Nat} {pt2 pos : Pos} (ha : SimA X Γ W [a, b] (evA ms)) (hi : X.N[i]? = some x) (hj : X.N[j]? = some y) (hij : i ≠ j)
    (hx : X.env.scope.names.lookup x = some .local) (hy : X.env.scope.names.lookup y = some .local) (hw : swappedStores [.Tuple [.Name x px, .Name y py] kt pt] (.Tuple [a, b] k2 pt2) X.env = pure (some [x, y]))
    (hs : swapsWithSole [.Tuple [.Name x px, .Name y py] kt pt] (.Tuple [a, b] k2 pt2) pos.line X.env = pure false := by rfl) : SimS X Γ W (.Assign [.Tuple [.Name x px, .Name y py] kt pt] (.Tuple [a, b] k2 pt2) pos) (sPar i j ms) :=
  ps_imp (ps_par S.calm S.nd hi hj hij hx hy ha hw hs) fun D σ H q => by
    obtain ⟨F, env, q⟩ := rdS_first (re := reA Γ) q
    refine rd_mono q fun xs H1 ⟨ρ1, hp1, vs, r1, e1, h1, p1⟩ => ?_
    split at p1
    · obtain ⟨v, w, rfl, q1, q2⟩ := reps_two h1
      exact ⟨v, w, rfl, p1.nx r1 ((e1.set q1 i).set q2 j)⟩
    · exact p1.elim

/-! ### what is walked -/
structure ITc where
  fuel : Nat
  next : Nat → Hc → Option (Option CV)
def ItOk (Γ : Gx) (F : List Nat) (ρ₀ : Nat → Addr) (N₀ : Nat) (H₀ : Hp) (J : It) (next : Nat → Hc → Option (Option CV)) : Prop :=
  ∀ (i : Nat) (ρ : Nat → Addr) (hp : Hc) (H : Hp), Step ρ₀ N₀ H₀ ρ hp.N H → SRh Γ ρ F hp H → match next i hp with
    | none => True
    | some none => J.stop i H
    | some (some v) => J.go i H ∧ ∀ x H', J.yld i H x H' → Step ρ hp.N H ρ hp.N H' ∧ SRh Γ ρ F hp H' ∧ Rep Γ ρ hp.N H' hp.N v x
def PostI (Γ : Gx) (F : List Nat) (W : WX) (σ : L2.St) (ρ : Nat → Addr) (N : Nat) (H : Hp) (r : R ITc) (Q : It → Hp → Prop) : Prop := match r with
  | .ok it hp' => ∀ ρ' H' J, Step ρ N H ρ' hp'.N H' → SRh Γ ρ' F hp' H' → ItOk Γ F ρ' hp'.N H' J it.next → Q J H'
  | .exc c fs hp' => ∀ ρ' H' d, Step ρ N H ρ' hp'.N H' → SRh Γ ρ' F hp' H' → ExcR Γ ρ' hp'.N H' fs d → W (.ref (Γ.cl c)) d σ H'
  | .stuck => False
def rdI (Γ : Gx) (W : WX) (m : M ITc) : TI := fun σ H Q => ∃ ρ F hp env, SRh Γ ρ F hp H ∧ SRe Γ ρ hp.N H σ env ∧ PostI Γ F W σ ρ hp.N H (m env hp) Q
abbrev SimI (X : Cx) (Γ : Gx) (W : WX) (tg iter : Expr) (m : M ITc) : Prop := PI X tg iter (rdI Γ W m)
theorem pi_imp {tg e : Expr} {t t' : TI} (h : PI X tg e t) (i : ∀ σ H Q, t' σ H Q → t σ H Q) : PI X tg e t' := ⟨fun pins s σ H R I q => h.run pins s σ H R I (i σ H R q)⟩
/-- an iterator out of values -/
def mIt {α : Type} (m : M α) (f : α → Hc → Option ITc) : M ITc := fun env hp => (m env hp).bind fun a hp => match f a hp with
  | some it => .ok it hp
  | none => .stuck
theorem mIt_ok {α β : Type} {re : Re α β} {m : M α} {f : α → Hc → Option ITc} {Q : It → Hp → Prop} (h : rdI Γ W (mIt m f) σ H Q) :
    rd Γ W re m σ H fun x H1 => ∃ ρ1 F hp1 a it, SRh Γ ρ1 F hp1 H1 ∧ re ρ1 hp1.N H1 a x ∧ f a hp1 = some it ∧ ∀ J, ItOk Γ F ρ1 hp1.N H1 J it.next → Q J H1 := by
  obtain ⟨ρ, F, hp, env, r, e, p⟩ := h
  refine ⟨ρ, F, hp, env, r, e, ?_⟩
  unfold mIt at p
  revert p
  generalize m env hp = z
  intro p
  cases z with
  | stuck => exact p
  | exc c fs hp' => exact p
  | ok a hp' =>
    intro ρ' H' x s r' e'
    have p' : PostI Γ F W σ ρ hp.N H (match f a hp' with | some it => .ok it hp' | none => .stuck) Q := p
    cases q : f a hp' with
    | none => rw [q] at p'; exact p'.elim
    | some it =>
      rw [q] at p'
      exact ⟨ρ', F, hp', a, it, r', e', q, fun J hJ => p' ρ' H' J s r' hJ⟩
def snap (xs : List CV) : ITc := ⟨xs.length + 1, fun i _ => some xs[i]?⟩
def live (n len : Nat) : ITc := ⟨len + 1, fun i hp => match hp.os[n]? with
  | some (.lst xs) => some xs[i]?
  | _ => none⟩
/-- a list or a tuple -/
def itSeq (v : CV) (hp : Hc) : Option ITc := match v with
  | .lst xs => some (snap xs)
  | .ref n => match hp.os[n]? with
    | some (.lst xs) => some (live n xs.length)
    | _ => none
  | _ => none
def itTup (v : CV) (_ : Hc) : Option ITc := (tupItems v).map snap
theorem itok_tup {ρ₀ N₀ H₀ a xs vs} (hn : N₀ ≤ N₀) (h : insU ρ₀ N₀ H₀ a (.tup vs) ∨ WrT Γ.K a vs) (q : Reps Γ ρ₀ N₀ H₀ N₀ xs vs) : ItOk Γ F ρ₀ N₀ H₀ (Itt Γ.K a) (snap xs).next := by
  intro i ρ hp H s r
  have h' : SqT Γ.K H a vs := h.elim (fun z => sqT_of (s.keepI _ _ rfl z)) sqT_wr
  have q' := q.mono s (Nat.le_refl _) s.le
  show match some xs[i]? with | none => True | some none => _ | some (some v) => _
  cases e : xs[i]? with
  | none => exact ⟨vs, h', q'.none e⟩
  | some v =>
    obtain ⟨w, e1, q1⟩ := q'.get e
    refine ⟨⟨vs, w, h', e1⟩, fun x H' y => ?_⟩
    obtain ⟨rfl, hy⟩ := y
    have e2 := hy vs h'
    rw [e1] at e2
    cases e2
    exact ⟨Step.refl, r, q1⟩
theorem itok_lst {ρ₀ N₀ H₀ a xs vs} (h : RdU ρ₀ N₀ H₀ a (.lst vs) ∨ WrL Γ.K a vs) (q : Reps Γ ρ₀ N₀ H₀ 0 xs vs) : ItOk Γ F ρ₀ N₀ H₀ (Itl Γ.K a) (snap xs).next := by
  intro i ρ hp H s r
  have h' := sqL_of (Γ := Γ) (h.imp (s.keep _ _) id)
  have q' : Reps Γ ρ hp.N H hp.N xs vs := q.mono s (Nat.zero_le _) (Nat.zero_le _)
  show match some xs[i]? with | none => True | some none => _ | some (some v) => _
  cases e : xs[i]? with
  | none => exact ⟨vs, h', q'.none e⟩
  | some v =>
    obtain ⟨w, e1, q1⟩ := q'.get e
    refine ⟨⟨vs, w, h', e1⟩, fun x H' y => ?_⟩
    obtain ⟨rfl, hy⟩ := y
    have e2 := hy vs h'
    rw [e1] at e2
    cases e2
    exact ⟨Step.refl, r, q1⟩
theorem itok_live {ρ₀ N₀ H₀ n len} (hn : n < N₀) : ItOk Γ F ρ₀ N₀ H₀ (Itl Γ.K (ρ₀ n)) (live n len).next := by
  intro i ρ hp H s r
  show match (match hp.os[n]? with | some (.lst xs) => some xs[i]? | _ => none) with | none => True | some none => _ | some (some v) => _
  split
  · trivial
  · rename_i e
    split at e
    · rename_i xs he
      obtain ⟨vs, h1, h2⟩ := r.obj n _ he
      rw [s.agree n hn] at h1
      have e' : xs[i]? = none := Option.some.inj e
      exact ⟨vs, .inl (.inl h1), h2.none e'⟩
    · cases e
  · rename_i v e
    split at e
    · rename_i xs he
      obtain ⟨vs, h1, h2⟩ := r.obj n _ he
      rw [s.agree n hn] at h1
      have e' : xs[i]? = some v := Option.some.inj e
      obtain ⟨w, e1, q1⟩ := h2.get e'
      have h' : SqL Γ.K H (ρ₀ n) vs := .inl (.inl h1)
      refine ⟨⟨vs, w, h', e1⟩, fun x H' y => ?_⟩
      obtain ⟨rfl, hy⟩ := y
      have e2 := hy vs h'
      rw [e1] at e2
      cases e2
      exact ⟨Step.refl, r, q1⟩
    · cases e
theorem sim_itup [S : Sx X Γ W k] {tg e : Expr} {m : M CV} (h : SimE X Γ W e m) : SimI X Γ W tg e (mIt m itTup) := pi_imp (pi_tup h) fun σ H Q q => by
  refine rd_mono (mIt_ok (re := reV Γ) q) fun x H1 ⟨ρ1, F, hp1, a, it, r1, h1, e1, hJ⟩ => ?_
  unfold itTup at e1
  have h1' : Rep Γ ρ1 hp1.N H1 hp1.N a x := h1
  cases a with
  | tup xs =>
    cases e1
    unfold Rep at h1'
    obtain ⟨p, vs, rfl, q1, q2⟩ := h1'
    refine ⟨p, rfl, ⟨vs, S.K ▸ sqT_of q1⟩, ?_⟩
    rw [S.K]
    exact hJ _ (itok_tup (Nat.le_refl _) (.inl q1) q2)
  | wtp xs =>
    cases e1
    unfold Rep at h1'
    obtain ⟨p, vs, rfl, q1, q2⟩ := h1'
    refine ⟨p, rfl, ⟨vs, S.K ▸ sqT_wr q1⟩, ?_⟩
    rw [S.K]
    exact hJ _ (itok_tup (Nat.le_refl _) (.inr q1) (q2.mono Step.refl (Nat.zero_le _) (Nat.zero_le _)))
  | _ => cases e1
theorem sim_ilst [S : Sx X Γ W k] {tg e : Expr} {m : M CV} (h : SimE X Γ W e m) : SimI X Γ W tg e (mIt m itSeq) := pi_imp (pi_list h) fun σ H Q q => by
  refine rd_mono (mIt_ok (re := reV Γ) q) fun x H1 ⟨ρ1, F, hp1, a, it, r1, h1, e1, hJ⟩ => ?_
  have h1' : Rep Γ ρ1 hp1.N H1 hp1.N a x := h1
  unfold itSeq at e1
  split at e1
  · cases e1
    unfold Rep at h1'
    obtain ⟨p, vs, rfl, q1, q2⟩ := h1'
    refine ⟨p, rfl, ⟨vs, S.K ▸ sqL_of q1⟩, ?_⟩
    rw [S.K]
    exact hJ _ (itok_lst q1 q2)
  · split at e1
    · rename_i he
      cases e1
      unfold Rep at h1'
      obtain ⟨hn, rfl⟩ := h1'
      obtain ⟨vs, g1, g2⟩ := r1.obj _ _ he
      refine ⟨_, rfl, ⟨vs, .inl (.inl g1)⟩, ?_⟩
      rw [S.K]
      exact hJ _ (itok_live hn)
    · cases e1
  · cases e1
end
end Bl

/-! Own layer, part H: for, while, ranges, enumerate, list comprehensions. -/
namespace Bl
open PySem PySem.Spec PyProof.Rows L2
section
variable {X : Cx} {Γ : Gx} {W : WX} {k : Nat} {F : List Nat} {ρ ρ' : Nat → Addr} {N N' : Nat} {H H' : Hp} {σ : L2.St} {env : En} {hp : Hc} {D : Ends}

/-! ### for -/
def forN (next : Nat → Hc → Option (Option CV)) (tg : Tgt) (body : MS) : Nat → Nat → MS
  | 0, _, _, _ => .stuck
  | n + 1, i, env, hp => match next i hp with
    | none => .stuck
    | some none => .ok (.nx env) hp
    | some (some v) => match tg.f v env with
      | none => .stuck
      | some env1 => match body env1 hp with
        | .stuck => .stuck
        | .ok f hp2 => match f with
          | .nx env2 => forN next tg body n (i + 1) env2 hp2
          | .ct env2 => forN next tg body n (i + 1) env2 hp2
          | .bk env2 => .ok (.nx env2) hp2
          | .rt v => .ok (.rt v) hp2
          | .ex c fs e => .ok (.ex c fs e) hp2
def sFor (mi : M ITc) (tg : Tgt) (body : MS) : MS := fun env hp => RS.of (mi env hp) env fun it hp => forN it.next tg body it.fuel 0 env hp
theorem for_ok {mi : M ITc} {tg : Tgt} {body : MS} (h : rdS Γ W (sFor mi tg body) D σ H) : tFor (rdI Γ W mi) (rdG Γ tg) (rdS Γ W body) D σ H := by
  obtain ⟨ρ, F, hp, env, r, e, p⟩ := h
  refine ⟨ρ, F, hp, env, r, e, ?_⟩
  unfold sFor at p
  revert p
  generalize mi env hp = z
  intro p
  cases z with
  | stuck => exact p
  | exc c fs hp' => exact fun ρ' H' d s r' q => p ρ' H' σ d s r' q (e.mono s)
  | ok it hp' =>
    intro ρ1 H1 J s1 r1 hJ
    have p1 : PostS Γ F W ρ1 hp'.N H1 (forN it.next tg body it.fuel 0 env hp') D := PostS.step s1 p
    have e1 := e.mono s1
    refine ⟨fun i m σ2 H2 => ∃ ρ2 hp2 env2, Step ρ1 hp'.N H1 ρ2 hp2.N H2 ∧ SRh Γ ρ2 F hp2 H2 ∧ SRe Γ ρ2 hp2.N H2 σ2 env2 ∧ PostS Γ F W ρ2 hp2.N H2 (forN it.next tg body m i env2 hp2) D,
      ⟨it.fuel, ρ1, hp', env, Step.refl, r1, e1, p1⟩, ?_⟩
    rintro i m σ2 H2 ⟨ρ2, hp2, env2, s2, r2, e2, p2⟩
    cases m with
    | zero => exact (show False from p2).elim
    | succ m =>
      have hi := hJ i ρ2 hp2 H2 s2 r2
      have p2' : PostS Γ F W ρ2 hp2.N H2 (match it.next i hp2 with
        | none => .stuck
        | some none => .ok (.nx env2) hp2
        | some (some v) => match tg.f v env2 with
          | none => .stuck
          | some env1 => match body env1 hp2 with
            | .stuck => .stuck
            | .ok f hp3 => match f with
              | .nx env3 => forN it.next tg body m (i + 1) env3 hp3
              | .ct env3 => forN it.next tg body m (i + 1) env3 hp3
              | .bk env3 => .ok (.nx env3) hp3
              | .rt v => .ok (.rt v) hp3
              | .ex c fs e => .ok (.ex c fs e) hp3) D := p2
      clear p2
      revert hi p2'
      generalize it.next i hp2 = w
      intro hi p2
      match w with
      | none => exact p2.elim
      | some none => exact .inl ⟨hi, p2.nx r2 e2⟩
      | some (some v) =>
        obtain ⟨go, hy⟩ := hi
        refine .inr ⟨go, fun σ3 H3 => ∃ ρ3 hp3 env3, Step ρ1 hp'.N H1 ρ3 hp3.N H3 ∧ SRh Γ ρ3 F hp3 H3 ∧ SRe Γ ρ3 hp3.N H3 σ3 env3 ∧ PostS Γ F W ρ3 hp3.N H3 (forN it.next tg body m (i + 1) env3 hp3) D,
          fun σ3 H3 q => ⟨m, Nat.lt_succ_self m, q⟩, fun x H4 yl => ?_⟩
        obtain ⟨s4, r4, h4⟩ := hy x H4 yl
        have e4 := e2.mono s4
        cases q : tg.f v env2 with
        | none => simp only [q] at p2; exact p2.elim
        | some env1 =>
          simp only [q] at p2
          refine ⟨ρ2, F, hp2, env2, v, env1, r4, e4, h4, q, fun σ5 e5 _ => ⟨ρ2, F, hp2, env1, r4, e5, ?_⟩⟩
          revert p2
          generalize body env1 hp2 = b
          intro p2
          have s4' := s2.trans s4
          cases b with
          | stuck => exact p2
          | ok f hp3 =>
            have p3 := PostS.step s4 p2
            cases f with
            | nx env3 => exact fun ρ6 H6 σ6 s6 r6 e6 => ⟨ρ6, hp3, env3, s4'.trans s6, r6, e6, PostS.step s6 p3⟩
            | ct env3 => exact fun ρ6 H6 σ6 s6 r6 e6 => ⟨ρ6, hp3, env3, s4'.trans s6, r6, e6, PostS.step s6 p3⟩
            | bk env3 => exact p3
            | rt v => exact p3
            | ex c fs e => exact p3
theorem sim_for [S : Sx X Γ W k] {tg iter : Expr} {body : List Stmt} {mi : M ITc} {t : Tgt} {b : MS} {pos : Pos} (hp : PassesOwn (model X.prog X.w) X.A X.env X.xe) (hi : SimI X Γ W tg iter mi) (hg : SimG X Γ tg t) (hb : SimSs X Γ W body b)
    (hs : ∀ x, foldedSetIterable iter X.env x = pure x := by intro _; rfl) : SimS X Γ W (.For tg iter body [] pos) (sFor mi t b) := ps_imp (ps_for hp S.calm hi hg hb hs) fun _ _ _ q => for_ok q

/-! ### while -/
def whileN (c : M Bool) (body : MS) : Nat → MS
  | 0, _, _ => .stuck
  | n + 1, env, hp => RS.of (c env hp) env fun b hp => if b then (match body env hp with
      | .stuck => .stuck
      | .ok f hp2 => match f with
        | .nx env2 => whileN c body n env2 hp2
        | .ct env2 => whileN c body n env2 hp2
        | .bk env2 => .ok (.nx env2) hp2
        | .rt v => .ok (.rt v) hp2
        | .ex c fs e => .ok (.ex c fs e) hp2) else .ok (.nx env) hp
theorem while_ok {c : M Bool} {body : MS} {n : Nat} (h : rdS Γ W (whileN c body n) D σ H) : tWhile (rd Γ W reB c) (rdS Γ W body) D σ H := by
  obtain ⟨ρ, F, hp, env, r, e, p⟩ := h
  refine ⟨fun m σ2 H2 => ∃ ρ2 hp2 env2, SRh Γ ρ2 F hp2 H2 ∧ SRe Γ ρ2 hp2.N H2 σ2 env2 ∧ PostS Γ F W ρ2 hp2.N H2 (whileN c body m env2 hp2) D, ⟨n, ρ, hp, env, r, e, p⟩, ?_⟩
  rintro m σ2 H2 ⟨ρ2, hp2, env2, r2, e2, p2⟩
  cases m with
  | zero => exact (show False from p2).elim
  | succ m =>
    refine rd_mono (rdS_next (re := reB) r2 e2 (show PostS Γ F W ρ2 hp2.N H2 (RS.of (c env2 hp2) env2 _) D from p2)) fun x H3 ⟨ρ3, hp3, b, s3, r3, e3, h3, p3⟩ => ?_
    cases (show b = x from h3)
    cases x with
    | false =>
      rw [if_neg Bool.false_ne_true] at p3 ⊢
      exact p3.nx r3 e3
    | true =>
      rw [if_pos rfl] at p3 ⊢
      refine ⟨fun σ4 H4 => ∃ ρ4 hp4 env4, SRh Γ ρ4 F hp4 H4 ∧ SRe Γ ρ4 hp4.N H4 σ4 env4 ∧ PostS Γ F W ρ4 hp4.N H4 (whileN c body m env4 hp4) D, fun σ4 H4 q => ⟨m, Nat.lt_succ_self m, q⟩, ρ3, F, hp3, env2, r3, e3, ?_⟩
      revert p3
      generalize body env2 hp3 = z
      intro p3
      cases z with
      | stuck => exact p3
      | ok f hp4 =>
        cases f with
        | nx env3 => exact fun ρ6 H6 σ6 s6 r6 e6 => ⟨ρ6, hp4, env3, r6, e6, PostS.step s6 p3⟩
        | ct env3 => exact fun ρ6 H6 σ6 s6 r6 e6 => ⟨ρ6, hp4, env3, r6, e6, PostS.step s6 p3⟩
        | bk env3 => exact p3
        | rt v => exact p3
        | ex c fs e => exact p3
theorem sim_while {c : Expr} {body : List Stmt} {tc : M Bool} {b : MS} {n : Nat} {pos : Pos} (hp : PassesOwn (model X.prog X.w) X.A X.env X.xe) (hc : SimT X Γ W c tc) (hb : SimSs X Γ W body b) : SimS X Γ W (.While c body [] pos) (whileN tc b n) :=
  ps_imp (ps_while hp hc hb) fun _ _ _ q => while_ok q

/-! ### ranges -/
def rngI (lo : Int) (n : Nat) : ITc := ⟨n + 1, fun i _ => some (if i < n then some (.int (lo + i)) else none)⟩
theorem itok_rng {lo : Int} {n : Nat} : ItOk Γ F ρ N H (Itr lo n) (rngI lo n).next := by
  intro i ρ2 hp2 H2 s r
  show match some (if i < n then some (CV.int (lo + i)) else none) with | none => True | some none => _ | some (some v) => _
  by_cases hl : i < n
  · rw [if_pos hl]
    refine ⟨hl, fun x H' y => ?_⟩
    obtain ⟨rfl, rfl⟩ := y
    exact ⟨Step.refl, r, repI⟩
  · rw [if_neg hl]
    exact Nat.le_of_not_lt hl
def okR (i : Int) : Bool := decide (-(2 ^ 62) ≤ i) && decide (i < 2 ^ 62)
theorem okR_and {i : Int} (h : okR i = true) : -(2 ^ 62) ≤ i ∧ i < 2 ^ 62 := by
  unfold okR at h
  simp only [Bool.and_eq_true, decide_eq_true_eq] at h
  exact h
def itR1 : List CV → Hc → Option ITc
  | [.int j], _ => if okR j = true then some (rngI 0 j.toNat) else none
  | _, _ => none
def itR2 : List CV → Hc → Option ITc
  | [.int i, .int j], _ => if (okR i && okR j) = true then some (rngI i (j - i).toNat) else none
  | _, _ => none
theorem sim_r1 {tg a : Expr} {ms : List (M CV)} {p pos : Pos} (hg : Gl X "range") (hm : X.mg "range" = none) (ha : SimA X Γ W [a] (evA ms)) (hs : starEach [a] X.env = [(false, eval a X.env)] := by rfl) : SimI X Γ W tg (.Call (.Name "range" p) [a] [] pos) (mIt (evA ms) itR1) :=
  pi_imp (pi_range1 hg hm ha hs) fun σ H Q q => by
    refine rd_mono (mIt_ok (re := reA Γ) q) fun xs H1 ⟨ρ1, F, hp1, as, it, r1, h1, e1, hJ⟩ => ?_
    unfold itR1 at e1
    split at e1
    · split at e1
      · rename_i hk
        cases e1
        obtain ⟨v, rfl, h2⟩ := Reps.one h1
        unfold Rep at h2; subst h2
        exact ⟨_, rfl, (okR_and hk).1, (okR_and hk).2, hJ _ itok_rng⟩
      · cases e1
    · cases e1
theorem sim_r2 {tg a b : Expr} {ms : List (M CV)} {p pos : Pos} (hg : Gl X "range") (hm : X.mg "range" = none) (ha : SimA X Γ W [a, b] (evA ms)) (hs : starEach [a, b] X.env = [(false, eval a X.env), (false, eval b X.env)] := by rfl) (hs2 : starEach [b] X.env = [(false, eval b X.env)] := by rfl) :
    SimI X Γ W tg (.Call (.Name "range" p) [a, b] [] pos) (mIt (evA ms) itR2) :=
  pi_imp (pi_range2 hg hm ha hs hs2) fun σ H Q q => by
    refine rd_mono (mIt_ok (re := reA Γ) q) fun xs H1 ⟨ρ1, F, hp1, as, it, r1, h1, e1, hJ⟩ => ?_
    unfold itR2 at e1
    split at e1
    · split at e1
      · rename_i hk
        rw [Bool.and_eq_true] at hk
        cases e1
        obtain ⟨v, w, rfl, h2, h3⟩ := reps_two h1
        unfold Rep at h2 h3; subst h2 h3
        exact ⟨_, _, rfl, ⟨(okR_and hk.1).1, (okR_and hk.1).2, (okR_and hk.2).1, (okR_and hk.2).2⟩, hJ _ itok_rng⟩
      · cases e1
    · cases e1

/-! ### enumerate of a list -/
def enumI (it : ITc) : ITc := ⟨it.fuel, fun i hp => match it.next i hp with
  | some (some v) => some (some (.tup [.int i, v]))
  | some none => some none
  | none => none⟩
theorem rep_pair {ρ : Nat → Addr} {hp : Hc} {H : Hp} {T : Addr} {a b : CV} {x y : V} (r : SRh Γ ρ F hp H) (hT : H T = none) (ha : Rep Γ ρ hp.N H hp.N a x) (hb : Rep Γ ρ hp.N H hp.N b y) : Rep Γ ρ hp.N (upd H T (.tup [x, y])) hp.N (.tup [a, b]) (.ref T) :=
  rep_newT r hT (by unfold Reps; exact ⟨x, [y], rfl, ha, reps1 hb⟩)
theorem itok_enumL {a : Addr} {it : ITc} (h : ItOk Γ F ρ N H (Itl Γ.K a) it.next) : ItOk Γ F ρ N H (Ite Γ.K a) (enumI it).next := by
  intro i ρ2 hp2 H2 s r
  have q := h i ρ2 hp2 H2 s r
  show match (match it.next i hp2 with | some (some v) => some (some (CV.tup [.int i, v])) | some none => some none | none => none) with | none => True | some none => _ | some (some v) => _
  revert q
  generalize it.next i hp2 = w
  intro q
  match w with
  | none => trivial
  | some none => exact q
  | some (some v) =>
    obtain ⟨⟨xs, x, g1, g2⟩, hy⟩ := q
    refine ⟨⟨xs, x, g1, g2⟩, fun y H' yl => ?_⟩
    obtain ⟨T, z, rfl, hT, rfl, hz⟩ := yl
    have ez := hz xs g1
    obtain ⟨_, r', h'⟩ := hy z H2 ⟨rfl, hz⟩
    exact ⟨step_new hT, r.new hT, rep_pair r hT repI h'⟩
def itEn : List CV → Hc → Option ITc
  | [x], hp => (itSeq x hp).map enumI
  | _, _ => none
theorem itSeq_ok {it : ITc} {x : CV} {v : V} (r : SRh Γ ρ F hp H) (h : Rep Γ ρ hp.N H hp.N x v) (e : itSeq x hp = some it) : ∃ a vs, v = .ref a ∧ SqL Γ.K H a vs ∧ ItOk Γ F ρ hp.N H (Itl Γ.K a) it.next := by
  unfold itSeq at e
  split at e
  · cases e
    unfold Rep at h
    obtain ⟨p, vs, rfl, q1, q2⟩ := h
    exact ⟨p, vs, rfl, sqL_of q1, itok_lst q1 q2⟩
  · split at e
    · rename_i he
      cases e
      unfold Rep at h
      obtain ⟨hn, rfl⟩ := h
      obtain ⟨vs, g1, g2⟩ := r.obj _ _ he
      exact ⟨_, vs, rfl, .inl (.inl g1), itok_live hn⟩
    · cases e
  · cases e
theorem sim_ien [S : Sx X Γ W k] {a : Expr} {ms : List (M CV)} {p pos tpos : Pos} {elts : List Expr} {kk : Nat} (hg : Gl X "enumerate") (hm : X.mg "enumerate" = none) (ha : SimA X Γ W [a] (evA ms)) (hs : starEach [a] X.env = [(false, eval a X.env)] := by rfl) :
    SimI X Γ W (.Tuple elts kk tpos) (.Call (.Name "enumerate" p) [a] [] pos) (mIt (evA ms) itEn) :=
  pi_imp (pi_enum hg hm ha hs) fun σ H Q q => by
    refine rd_mono (mIt_ok (re := reA Γ) q) fun xs H1 ⟨ρ1, F, hp1, as, it, r1, h1, e1, hJ⟩ => ?_
    unfold itEn at e1
    split at e1
    · rename_i x
      cases q : itSeq x hp1 with
      | none => rw [q] at e1; cases e1
      | some it0 =>
        rw [q] at e1; cases e1
        obtain ⟨v, rfl, h2⟩ := Reps.one h1
        obtain ⟨b, vs, rfl, g1, g2⟩ := itSeq_ok r1 h2 q
        refine ⟨b, vs, rfl, S.K ▸ g1, ?_⟩
        rw [S.K]
        exact hJ _ (itok_enumL g2)
    · cases e1
end
end Bl

/-! Own layer, part I: list comprehensions. -/
namespace Bl
open PySem PySem.Spec PyProof.Rows L2
/-- the wish where nothing may be raised -/
def W0 : WX := fun _ _ _ _ => False
theorem takesW0 {X : Cx} : Takes X W0 := takes0
instance {X : Cx} {Γ : Gx} {W : WX} {k : Nat} [S : Sx X Γ W k] {s : Shared} {H : Hp} {scope : Scope} {cenv : Env} {fp : List Addr} : Sx (X.blk s H scope cenv fp) Γ W0 k :=
  ⟨S.K, S.calm, S.nd, S.room, takesW0⟩
section
variable {X : Cx} {Γ : Gx} {W : WX} {k : Nat} {F : List Nat} {ρ ρ' : Nat → Addr} {N N' : Nat} {H H' : Hp} {σ : L2.St} {env : En} {hp : Hc} {D : Ends}
def wipeE (env : En) : List Nat → En
  | [] => env
  | v :: vs => (wipeE env vs).set v none
theorem SRe.unset (e : SRe Γ ρ N H σ env) (i : Nat) : SRe Γ ρ N H (σ.set i none) (env.set i none) := by
  refine ⟨by rw [List.length_set, List.length_set]; exact e.len, fun j w q => ?_⟩
  by_cases hij : i = j
  · subst hij
    by_cases hl : i < env.length
    · rw [List.getElem?_set_self hl] at q; cases q
    · rw [List.getElem?_eq_none (by rw [List.length_set]; omega)] at q; cases q
  · rw [List.getElem?_set_ne hij] at q ⊢
    exact e.get j w q
theorem SRe.wipe (e : SRe Γ ρ N H σ env) : ∀ vs : List Nat, SRe Γ ρ N H (L2.wipe σ vs) (wipeE env vs)
  | [] => e
  | v :: vs => by
    unfold L2.wipe wipeE
    exact (SRe.wipe e vs).unset v
theorem wipe_in {σ : L2.St} : ∀ {vs : List Nat} {j : Nat}, j ∈ vs → j < σ.length → (L2.wipe σ vs)[j]? = some none
  | v :: vs, j, h, hl => by
    unfold L2.wipe
    by_cases hv : v = j
    · subst hv
      rw [List.getElem?_set_self (by rw [wipe_length]; exact hl)]
    · rw [List.getElem?_set_ne hv]
      rcases List.mem_cons.mp h with e | h
      · exact absurd e.symm hv
      · exact wipe_in h hl
theorem wipe_agr {σ σ' : L2.St} {sl vs : List Nat} (a : Agr sl (L2.wipe σ vs) σ') (h : ∀ j ∈ sl, j ∈ vs) : L2.wipe σ' vs = L2.wipe σ vs := by
  have hl : σ'.length = σ.length := a.1.trans (wipe_length σ vs)
  refine List.ext_getElem? fun j => ?_
  by_cases hj : j < σ.length
  · by_cases hv : j ∈ vs
    · rw [wipe_in hv (by rw [hl]; exact hj), wipe_in hv hj]
    · rw [wipe_out hv, wipe_out hv, a.2 j fun z => hv (h j z), wipe_out hv]
  · rw [List.getElem?_eq_none (by rw [wipe_length, hl]; omega), List.getElem?_eq_none (by rw [wipe_length]; omega)]

/-- the value's turn: it is appended to the list being made -/
def compAdd (id : Nat) (y : CV) (hp : Hc) : Option Hc := match hp.os[id]? with
  | some (.lst acc) => if (decide (acc.length < 16777216) && decide (hp.fl ≤ id)) = true then some (hp.set id (.lst (acc ++ [y]))) else none
  | _ => none
def compN (next : Nat → Hc → Option (Option CV)) (tg : Tgt) (tests : M Bool) (elt : M CV) (env : En) (id : Nat) : Nat → Nat → Hc → Option Hc
  | 0, _, _ => none
  | n + 1, i, hp => match next i hp with
    | none => none
    | some none => some hp
    | some (some v) => match tg.f v env with
      | none => none
      | some env1 => match tests env1 hp with
        | .ok b hp1 => if b then (match elt env1 hp1 with
            | .ok y hp2 => match compAdd id y hp2 with
              | some hp3 => compN next tg tests elt env id n (i + 1) hp3
              | none => none
            | _ => none) else compN next tg tests elt env id n (i + 1) hp1
        | _ => none
def eComp (mi : M ITc) (tg : Tgt) (tests : M Bool) (elt : M CV) (own : List Nat) : M CV := fun env hp => (mi env hp).bind fun it hp =>
  match compN it.next tg tests elt (wipeE env own) hp.N it.fuel 0 (hp.push (.lst [])) with
  | some hp' => .ok (.ref hp.N) hp'
  | none => .stuck
def tTrue : M Bool := fun _ hp => .ok true hp
abbrev SimTs (X : Cx) (Γ : Gx) (W : WX) (cs : List Expr) (m : M Bool) : Prop := PTs X cs (rd Γ W reB m)
theorem sim_tests0 : SimTs X Γ W [] tTrue := ⟨fun pins s σ H Q I h => pts_nil.run pins s σ H Q I (by
  obtain ⟨ρ, F, hp, env, r, e, p⟩ := h
  exact p.ok r rfl)⟩
theorem sim_tests1 {c : Expr} {t : M Bool} (h : SimT X Γ W c t) : SimTs X Γ W [c] t := pts_one h
/-- the list at D is the clean object id -/
def Made (Γ : Gx) (F : List Nat) (ρ₀ : Nat → Addr) (N₀ : Nat) (H₀ : Hp) (D : Addr) (ρ : Nat → Addr) (hp : Hc) (H : Hp) : Prop :=
  Step ρ₀ N₀ H₀ ρ hp.N H ∧ SRh Γ ρ F hp H ∧ N₀ < hp.N ∧ ρ N₀ = D
theorem compAdd_ok {ρ₀ N₀ H₀ D ρ1 hp1 H1 ρ2 hp2 H2 y x hp3} (m : Made Γ F ρ₀ N₀ H₀ D ρ1 hp1 H1) (s : Step ρ1 hp1.N H1 ρ2 hp2.N H2) (r : SRh Γ ρ2 F hp2 H2) (h : Rep Γ ρ2 hp2.N H2 hp2.N y x) (e : compAdd N₀ y hp2 = some hp3) :
    ∃ acc, H2 D = some (.lst acc) ∧ acc.length < sizeLine ∧ Made Γ F ρ₀ N₀ H₀ D ρ2 hp3 (upd H2 D (.lst (acc ++ [x]))) := by
  unfold compAdd at e
  split at e
  · rename_i acc ha
    split at e
    · rename_i hc
      cases e
      simp only [Bool.and_eq_true, decide_eq_true_eq] at hc
      obtain ⟨vs, g1, g2⟩ := r.obj N₀ _ ha
      have hD : ρ2 N₀ = D := (s.agree N₀ m.2.2.1).trans m.2.2.2
      have hn : N₀ < hp2.N := Nat.lt_of_lt_of_le m.2.2.1 s.le
      rw [hD] at g1
      refine ⟨vs, g1, by rw [← g2.len, sizeLine_eq]; exact hc.1, ?_, ?_, ?_, hD⟩
      · rw [Hc.set_N]
        have q : Step ρ2 hp2.N H2 ρ2 hp2.N (upd H2 (ρ2 N₀) (.lst (vs ++ [x]))) := step_write hn
        rw [hD] at q
        exact (m.1.trans s).trans q
      · rw [← hD]
        refine r.write hn (fun hl => absurd hl (Nat.not_lt.mpr hc.2)) (fun f hf q => limO_mono hf _ q) ⟨_, upd_same, ?_⟩
        exact (g2.app (reps1 h)).mono (step_write hn) (Nat.le_refl _) (Nat.le_refl _)
      · rw [Hc.set_N]; exact hn
    · cases e
  · cases e
theorem comp_ok {mi : M ITc} {tg : Tgt} {tests : M Bool} {elt : M CV} {own : List Nat} (hsl : ∀ j ∈ tg.sl, j ∈ own) {Q : VK} (h : rd Γ W (reV Γ) (eComp mi tg tests elt own) σ H Q) :
    tLc (rdI Γ W mi) (rdG Γ tg) (rd Γ W0 reB tests) (rd Γ W0 (reV Γ) elt) own σ H Q := by
  obtain ⟨ρ, F, hp, env, r, e, p⟩ := h
  refine ⟨ρ, F, hp, env, r, e, ?_⟩
  unfold eComp at p
  revert p
  generalize mi env hp = z
  intro p
  cases z with
  | stuck => exact p
  | exc c fs hp' => exact p
  | ok it hp' =>
    intro ρ1 H1 J s1 r1 hJ D hD
    have e1 := e.mono s1
    have p1 : Post Γ F W σ ρ hp.N H (reV Γ) (match compN it.next tg tests elt (wipeE env own) hp'.N it.fuel 0 (hp'.push (.lst [])) with | some hp2 => .ok (.ref hp'.N) hp2 | none => .stuck) Q := p
    cases hres : compN it.next tg tests elt (wipeE env own) hp'.N it.fuel 0 (hp'.push (.lst [])) with
    | none => rw [hres] at p1; exact p1.elim
    | some hpE =>
      rw [hres] at p1
      have m0 : Made Γ F ρ1 hp'.N H1 D (ext ρ1 hp'.N D) (hp'.push (.lst [])) (upd H1 D (.lst [])) := by
        refine ⟨?_, srh_newL r1 hD (by unfold Reps; rfl), ?_, ext_at⟩
        · rw [Hc.push_N]; exact step_alloc hD
        · rw [Hc.push_N]; exact Nat.lt_succ_self _
      refine ⟨fun i m H2 => ∃ ρ2 hp2, Made Γ F ρ1 hp'.N H1 D ρ2 hp2 H2 ∧ compN it.next tg tests elt (wipeE env own) hp'.N m i hp2 = some hpE, ⟨it.fuel, _, _, m0, hres⟩, ?_⟩
      rintro i m H2 ⟨ρ2, hp2, m2, h2⟩
      cases m with
      | zero => simp [compN] at h2
      | succ m =>
        have hi := hJ i ρ2 hp2 H2 m2.1 m2.2.1
        unfold compN at h2
        revert hi h2
        generalize it.next i hp2 = w
        intro hi h2
        match w with
        | none => cases h2
        | some none =>
          cases h2
          refine .inl ⟨hi, p1 ρ2 H2 (.ref D) (s1.trans m2.1) m2.2.1 ?_⟩
          show Rep Γ ρ2 hpE.N H2 hpE.N (.ref hp'.N) (.ref D)
          unfold Rep
          exact ⟨m2.2.2.1, by rw [m2.2.2.2]⟩
        | some (some v) =>
          obtain ⟨go, hy⟩ := hi
          refine .inr ⟨go, fun H3 => ∃ ρ3 hp3, Made Γ F ρ1 hp'.N H1 D ρ3 hp3 H3 ∧ compN it.next tg tests elt (wipeE env own) hp'.N m (i + 1) hp3 = some hpE, fun H3 q => ⟨m, Nat.lt_succ_self m, q⟩, fun x H4 yl => ?_⟩
          obtain ⟨s4, r4, h4⟩ := hy x H4 yl
          have e4 : SRe Γ ρ2 hp2.N H4 (L2.wipe σ own) (wipeE env own) := ((e1.mono m2.1).mono s4).wipe own
          have m4 : Made Γ F ρ1 hp'.N H1 D ρ2 hp2 H4 := ⟨m2.1.trans s4, r4, m2.2.2.1, m2.2.2.2⟩
          have h2' : (match tg.f v (wipeE env own) with
            | none => none
            | some env1 => match tests env1 hp2 with
              | .ok b hp1 => if b then (match elt env1 hp1 with
                  | .ok y hp2 => match compAdd hp'.N y hp2 with
                    | some hp3 => compN it.next tg tests elt (wipeE env own) hp'.N m (i + 1) hp3
                    | none => none
                  | _ => none) else compN it.next tg tests elt (wipeE env own) hp'.N m (i + 1) hp1
              | _ => none) = some hpE := h2
          clear h2
          split at h2'
          · cases h2'
          · rename_i env1 q1
            refine ⟨ρ2, F, hp2, _, v, env1, r4, e4, h4, q1, fun σ5 e5 a5 => ⟨wipe_agr a5 hsl, ρ2, F, hp2, env1, r4, e5, ?_⟩⟩
            split at h2'
            · rename_i b hp5 q2
              rw [q2]
              intro ρ6 H6 b' s6 r6 hb
              cases (show b = b' from hb)
              have m6 : Made Γ F ρ1 hp'.N H1 D ρ6 hp5 H6 := ⟨m4.1.trans s6, r6, Nat.lt_of_lt_of_le m4.2.2.1 s6.le, (s6.agree _ m4.2.2.1).trans m4.2.2.2⟩
              cases b with
              | false =>
                rw [if_neg Bool.false_ne_true] at h2' ⊢
                exact ⟨ρ6, hp5, m6, h2'⟩
              | true =>
                rw [if_pos rfl] at h2' ⊢
                refine ⟨ρ6, F, hp5, env1, r6, e5.mono s6, ?_⟩
                split at h2'
                · rename_i y hp7 q3
                  rw [q3]
                  intro ρ8 H8 x8 s8 r8 h8
                  split at h2'
                  · rename_i hp9 q4
                    obtain ⟨acc, g1, g2, g3⟩ := compAdd_ok m6 s8 r8 h8 q4
                    exact ⟨acc, g1, g2, ρ8, hp9, g3, h2'⟩
                  · cases h2'
                · cases h2'
            · cases h2'
theorem sim_comp [S : Sx X Γ W k] {elt tg iter : Expr} {ifs : List Expr} {scope : Scope} {own : List (Str × Nat)} {pos : Pos} {mi : M ITc} {t : Tgt} {mt : M Bool} {me : M CV} (ok : BlkOk X.N X.env.scope scope own) (hi : SimI X Γ W tg iter mi)
    (hg : ∀ (s : Shared) (H : Hp) (C : Addr) (cl : List (Str × Addr)) (fp : List Addr), SimG (X.blk s H scope (compEnvC scope cl C X.env) fp) Γ tg t)
    (ht : ∀ (s : Shared) (H : Hp) (C : Addr) (cl : List (Str × Addr)) (fp : List Addr), SimTs (X.blk s H scope (compEnvC scope cl C X.env) fp) Γ W0 ifs mt)
    (he : ∀ (s : Shared) (H : Hp) (C : Addr) (cl : List (Str × Addr)) (fp : List Addr), SimE (X.blk s H scope (compEnvC scope cl C X.env) fp) Γ W0 elt me)
    (hsl : ∀ j ∈ t.sl, j ∈ own.map (·.2) := by decide) (hs : ∀ x, foldedSetIterable iter X.env x = pure x := by intro _; rfl) : SimE X Γ W (.ListComp elt [⟨tg, iter, ifs, 0⟩] scope pos) (eComp mi t mt me (own.map (·.2))) :=
  pe_imp (pe_lc S.calm S.nd hi ok hg ht he hs) fun _ _ _ q => comp_ok hsl q
/-- name = [..] on one line -/
theorem sim_setComp [S : Sx X Γ W k] {i : Nat} {y : Str} {py : Pos} {elt tg iter : Expr} {ifs : List Expr} {scope : Scope} {own : List (Str × Nat)} {pos spos : Pos} {mi : M ITc} {t : Tgt} {mt : M Bool} {me : M CV} (hy : X.N[i]? = some y) (hyl : X.env.scope.names.lookup y = some .local)
    (hsw : swapsWith (.ListComp elt [⟨tg, iter, ifs, 0⟩] scope pos) (some (.Name y py)) spos.line X.env = pure true) (ok : BlkOk X.N X.env.scope scope own) (hi : SimI X Γ W tg iter mi)
    (hg : ∀ (s : Shared) (H : Hp) (C : Addr) (cl : List (Str × Addr)) (fp : List Addr), SimG (X.blk s H scope (compEnvC scope cl C X.env) fp) Γ tg t)
    (ht : ∀ (s : Shared) (H : Hp) (C : Addr) (cl : List (Str × Addr)) (fp : List Addr), SimTs (X.blk s H scope (compEnvC scope cl C X.env) fp) Γ W0 ifs mt)
    (he : ∀ (s : Shared) (H : Hp) (C : Addr) (cl : List (Str × Addr)) (fp : List Addr), SimE (X.blk s H scope (compEnvC scope cl C X.env) fp) Γ W0 elt me)
    (hsl : ∀ j ∈ t.sl, j ∈ own.map (·.2) := by decide) (hs : ∀ x, foldedSetIterable iter X.env x = pure x := by intro _; rfl) : SimS X Γ W (.Assign [.Name y py] (.ListComp elt [⟨tg, iter, ifs, 0⟩] scope pos) spos) (sAsg (gNm i) (eComp mi t mt me (own.map (·.2)))) :=
  ps_imp (ps_setLc S.calm S.nd hy hyl hsw hi ok hg ht he hs) fun D σ H q => by
    obtain ⟨F, env, q⟩ := rdS_first (re := reV Γ) q
    refine comp_ok hsl (rd_mono q fun x H1 ⟨ρ1, hp1, a, r1, e1, h1, p1⟩ => ?_)
    exact p1.nx r1 (e1.set h1 i)
end
end Bl

/-! Own layer, part J: list comprehensions of two clauses; stores by place; raise; what a def promises. -/
namespace Bl
open PySem PySem.Spec PyProof.Rows L2
section
variable {X : Cx} {Γ : Gx} {W : WX} {k : Nat} {F : List Nat} {ρ ρ' : Nat → Addr} {N N' : Nat} {H H' : Hp} {σ : L2.St} {env : En} {hp : Hc} {D : Ends}
theorem ItOk.mono {J : It} {next : Nat → Hc → Option (Option CV)} (h : ItOk Γ F ρ N H J next) (s : Step ρ N H ρ' N' H') : ItOk Γ F ρ' N' H' J next := fun i ρ2 hp2 H2 s2 r2 => h i ρ2 hp2 H2 (s.trans s2) r2
/-- a clause's loop that fills the list at D, from any state -/
theorem compN_run {ρ₀ : Nat → Addr} {N₀ : Nat} {H₀ : Hp} {D : Addr} {ρs : Nat → Addr} {hps : Hc} {Hs : Hp} {J : It} {next : Nat → Hc → Option (Option CV)} {tg : Tgt} {tests : M Bool} {elt : M CV} {env : En} {σw : L2.St} {vs : List Nat} {σb : L2.St} {n : Nat} {hpE : Hc} {End : Hp → Prop}
    (ms : Made Γ F ρ₀ N₀ H₀ D ρs hps Hs) (hJ : ItOk Γ F ρs hps.N Hs J next) (es : SRe Γ ρs hps.N Hs σw env) (hw : ∀ σ', Agr tg.sl σw σ' → L2.wipe σ' vs = σb)
    (hres : compN next tg tests elt env N₀ n 0 hps = some hpE) (hEnd : ∀ ρ' H', Made Γ F ρ₀ N₀ H₀ D ρ' hpE H' → Step ρs hps.N Hs ρ' hpE.N H' → End H') :
    ∃ Wp : Nat → Nat → Hp → Prop, (∃ m, Wp 0 m Hs) ∧ ∀ i m H, Wp i m H → (J.stop i H ∧ End H) ∨ (J.go i H ∧ ∃ Nx : Hp → Prop, (∀ H', Nx H' → ∃ m', m' < m ∧ Wp (i + 1) m' H') ∧
      ∀ x H', J.yld i H x H' → rdG Γ tg x σw H' fun σ2 H2 => L2.wipe σ2 vs = σb ∧ rd Γ W0 reB tests σ2 H2 fun b H3 =>
        if b = true then rd Γ W0 (reV Γ) elt σ2 H3 fun y H4 => ∃ acc, H4 D = some (.lst acc) ∧ acc.length < sizeLine ∧ Nx (upd H4 D (.lst (acc ++ [y]))) else Nx H3) := by
  refine ⟨fun i m H2 => ∃ ρ2 hp2, Made Γ F ρ₀ N₀ H₀ D ρ2 hp2 H2 ∧ Step ρs hps.N Hs ρ2 hp2.N H2 ∧ compN next tg tests elt env N₀ m i hp2 = some hpE, ⟨n, _, _, ms, Step.refl, hres⟩, ?_⟩
  rintro i m H2 ⟨ρ2, hp2, m2, t2, h2⟩
  cases m with
  | zero => simp [compN] at h2
  | succ m =>
    have hi := hJ i ρ2 hp2 H2 t2 m2.2.1
    unfold compN at h2
    revert hi h2
    generalize next i hp2 = w
    intro hi h2
    match w with
    | none => cases h2
    | some none =>
      obtain rfl : hp2 = hpE := Option.some.inj h2
      exact .inl ⟨hi, hEnd ρ2 H2 m2 t2⟩
    | some (some v) =>
      obtain ⟨go, hy⟩ := hi
      refine .inr ⟨go, fun H3 => ∃ ρ3 hp3, Made Γ F ρ₀ N₀ H₀ D ρ3 hp3 H3 ∧ Step ρs hps.N Hs ρ3 hp3.N H3 ∧ compN next tg tests elt env N₀ m (i + 1) hp3 = some hpE, fun H3 q => ⟨m, Nat.lt_succ_self m, q⟩, fun x H4 yl => ?_⟩
      obtain ⟨s4, r4, h4⟩ := hy x H4 yl
      have e4 := (es.mono t2).mono s4
      have m4 : Made Γ F ρ₀ N₀ H₀ D ρ2 hp2 H4 := ⟨m2.1.trans s4, r4, m2.2.2.1, m2.2.2.2⟩
      have h2' : (match tg.f v env with
        | none => none
        | some env1 => match tests env1 hp2 with
          | .ok b hp1 => if b then (match elt env1 hp1 with
              | .ok y hp2 => match compAdd N₀ y hp2 with
                | some hp3 => compN next tg tests elt env N₀ m (i + 1) hp3
                | none => none
              | _ => none) else compN next tg tests elt env N₀ m (i + 1) hp1
          | _ => none) = some hpE := h2
      clear h2
      split at h2'
      · cases h2'
      · rename_i env1 q1
        refine ⟨ρ2, F, hp2, _, v, env1, r4, e4, h4, q1, fun σ5 e5 a5 => ⟨hw σ5 a5, ρ2, F, hp2, env1, r4, e5, ?_⟩⟩
        split at h2'
        · rename_i b hp5 q2
          rw [q2]
          intro ρ6 H6 b' s6 r6 hb
          cases (show b = b' from hb)
          have m6 : Made Γ F ρ₀ N₀ H₀ D ρ6 hp5 H6 := ⟨m4.1.trans s6, r6, Nat.lt_of_lt_of_le m4.2.2.1 s6.le, (s6.agree _ m4.2.2.1).trans m4.2.2.2⟩
          have t6 := (t2.trans s4).trans s6
          cases b with
          | false =>
            rw [if_neg Bool.false_ne_true] at h2' ⊢
            exact ⟨ρ6, hp5, m6, t6, h2'⟩
          | true =>
            rw [if_pos rfl] at h2' ⊢
            refine ⟨ρ6, F, hp5, env1, r6, e5.mono s6, ?_⟩
            split at h2'
            · rename_i y hp7 q3
              rw [q3]
              intro ρ8 H8 x8 s8 r8 h8
              split at h2'
              · rename_i hp9 q4
                obtain ⟨acc, g1, g2, g3⟩ := compAdd_ok m6 s8 r8 h8 q4
                refine ⟨acc, g1, g2, ρ8, hp9, g3, ?_, h2'⟩
                have hD : ρ8 N₀ = D := g3.2.2.2
                have hn : N₀ < hp7.N := Nat.lt_of_lt_of_le m6.2.2.1 s8.le
                have q : Step ρ8 hp7.N H8 ρ8 hp7.N (upd H8 (ρ8 N₀) (.lst (acc ++ [x8]))) := step_write hn
                rw [hD] at q
                have hN : hp9.N = hp7.N := by
                  unfold compAdd at q4
                  split at q4
                  · split at q4
                    · cases q4; exact Hc.set_N _ _ _
                    · cases q4
                  · cases q4
                rw [hN]
                exact (t6.trans s8).trans q
              · cases h2'
            · cases h2'
        · cases h2'
def compN2 (next : Nat → Hc → Option (Option CV)) (tg : Tgt) (tests : M Bool) (mi1 : M ITc) (tg1 : Tgt) (tests1 : M Bool) (elt : M CV) (vs1 : List Nat) (env : En) (id : Nat) : Nat → Nat → Hc → Option Hc
  | 0, _, _ => none
  | n + 1, i, hp => match next i hp with
    | none => none
    | some none => some hp
    | some (some v) => match tg.f v env with
      | none => none
      | some env1 => match tests env1 hp with
        | .ok b hp1 => if b then (match mi1 env1 hp1 with
            | .ok it hp2 => match compN it.next tg1 tests1 elt (wipeE env1 vs1) id it.fuel 0 hp2 with
              | some hp3 => compN2 next tg tests mi1 tg1 tests1 elt vs1 env id n (i + 1) hp3
              | none => none
            | _ => none) else compN2 next tg tests mi1 tg1 tests1 elt vs1 env id n (i + 1) hp1
        | _ => none
def eComp2 (mi : M ITc) (tg : Tgt) (tests : M Bool) (mi1 : M ITc) (tg1 : Tgt) (tests1 : M Bool) (elt : M CV) (own vs1 : List Nat) : M CV := fun env hp => (mi env hp).bind fun it hp =>
  match compN2 it.next tg tests mi1 tg1 tests1 elt vs1 (wipeE env own) hp.N it.fuel 0 (hp.push (.lst [])) with
  | some hp' => .ok (.ref hp.N) hp'
  | none => .stuck
theorem comp2_ok {mi mi1 : M ITc} {tg tg1 : Tgt} {tests tests1 : M Bool} {elt : M CV} {own vs1 : List Nat} (hsl : ∀ j ∈ tg.sl, j ∈ own) (hsl1 : ∀ j ∈ tg1.sl, j ∈ vs1) {Q : VK} (h : rd Γ W (reV Γ) (eComp2 mi tg tests mi1 tg1 tests1 elt own vs1) σ H Q) :
    tLc2 (rdI Γ W mi) (rdG Γ tg) (rd Γ W0 reB tests) (rdI Γ W0 mi1) (rdG Γ tg1) (rd Γ W0 reB tests1) (rd Γ W0 (reV Γ) elt) own vs1 σ H Q := by
  obtain ⟨ρ, F, hp, env, r, e, p⟩ := h
  refine ⟨ρ, F, hp, env, r, e, ?_⟩
  unfold eComp2 at p
  revert p
  generalize mi env hp = z
  intro p
  cases z with
  | stuck => exact p
  | exc c fs hp' => exact p
  | ok it hp' =>
    intro ρ1 H1 J s1 r1 hJ D hD
    have e1 := e.mono s1
    have p1 : Post Γ F W σ ρ hp.N H (reV Γ) (match compN2 it.next tg tests mi1 tg1 tests1 elt vs1 (wipeE env own) hp'.N it.fuel 0 (hp'.push (.lst [])) with | some hp2 => .ok (.ref hp'.N) hp2 | none => .stuck) Q := p
    cases hres : compN2 it.next tg tests mi1 tg1 tests1 elt vs1 (wipeE env own) hp'.N it.fuel 0 (hp'.push (.lst [])) with
    | none => rw [hres] at p1; exact p1.elim
    | some hpE =>
      rw [hres] at p1
      have m0 : Made Γ F ρ1 hp'.N H1 D (ext ρ1 hp'.N D) (hp'.push (.lst [])) (upd H1 D (.lst [])) := by
        refine ⟨?_, srh_newL r1 hD (by unfold Reps; rfl), ?_, ext_at⟩
        · rw [Hc.push_N]; exact step_alloc hD
        · rw [Hc.push_N]; exact Nat.lt_succ_self _
      refine ⟨fun i m H2 => ∃ ρ2 hp2, Made Γ F ρ1 hp'.N H1 D ρ2 hp2 H2 ∧ compN2 it.next tg tests mi1 tg1 tests1 elt vs1 (wipeE env own) hp'.N m i hp2 = some hpE, ⟨it.fuel, _, _, m0, hres⟩, ?_⟩
      rintro i m H2 ⟨ρ2, hp2, m2, h2⟩
      cases m with
      | zero => simp [compN2] at h2
      | succ m =>
        have hi := hJ i ρ2 hp2 H2 m2.1 m2.2.1
        unfold compN2 at h2
        revert hi h2
        generalize it.next i hp2 = w
        intro hi h2
        match w with
        | none => cases h2
        | some none =>
          cases h2
          refine .inl ⟨hi, p1 ρ2 H2 (.ref D) (s1.trans m2.1) m2.2.1 ?_⟩
          show Rep Γ ρ2 hpE.N H2 hpE.N (.ref hp'.N) (.ref D)
          unfold Rep
          exact ⟨m2.2.2.1, by rw [m2.2.2.2]⟩
        | some (some v) =>
          obtain ⟨go, hy⟩ := hi
          refine .inr ⟨go, fun H3 => ∃ ρ3 hp3, Made Γ F ρ1 hp'.N H1 D ρ3 hp3 H3 ∧ compN2 it.next tg tests mi1 tg1 tests1 elt vs1 (wipeE env own) hp'.N m (i + 1) hp3 = some hpE, fun H3 q => ⟨m, Nat.lt_succ_self m, q⟩, fun x H4 yl => ?_⟩
          obtain ⟨s4, r4, h4⟩ := hy x H4 yl
          have e4 : SRe Γ ρ2 hp2.N H4 (L2.wipe σ own) (wipeE env own) := ((e1.mono m2.1).mono s4).wipe own
          have m4 : Made Γ F ρ1 hp'.N H1 D ρ2 hp2 H4 := ⟨m2.1.trans s4, r4, m2.2.2.1, m2.2.2.2⟩
          have h2' : (match tg.f v (wipeE env own) with
            | none => none
            | some env1 => match tests env1 hp2 with
              | .ok b hp1 => if b then (match mi1 env1 hp1 with
                  | .ok it hp2 => match compN it.next tg1 tests1 elt (wipeE env1 vs1) hp'.N it.fuel 0 hp2 with
                    | some hp3 => compN2 _ tg tests mi1 tg1 tests1 elt vs1 (wipeE env own) hp'.N m (i + 1) hp3
                    | none => none
                  | _ => none) else compN2 _ tg tests mi1 tg1 tests1 elt vs1 (wipeE env own) hp'.N m (i + 1) hp1
              | _ => none) = some hpE := h2
          clear h2
          split at h2'
          · cases h2'
          · rename_i env1 q1
            refine ⟨ρ2, F, hp2, _, v, env1, r4, e4, h4, q1, fun σ5 e5 a5 => ⟨wipe_agr a5 hsl, ρ2, F, hp2, env1, r4, e5, ?_⟩⟩
            split at h2'
            · rename_i b hp5 q2
              rw [q2]
              intro ρ6 H6 b' s6 r6 hb
              cases (show b = b' from hb)
              have m6 : Made Γ F ρ1 hp'.N H1 D ρ6 hp5 H6 := ⟨m4.1.trans s6, r6, Nat.lt_of_lt_of_le m4.2.2.1 s6.le, (s6.agree _ m4.2.2.1).trans m4.2.2.2⟩
              cases b with
              | false =>
                rw [if_neg Bool.false_ne_true] at h2' ⊢
                exact ⟨ρ6, hp5, m6, h2'⟩
              | true =>
                rw [if_pos rfl] at h2' ⊢
                have e6 := e5.mono s6
                refine ⟨ρ6, F, hp5, env1, r6, e6, ?_⟩
                split at h2'
                · rename_i it1 hp7 q3
                  rw [q3]
                  intro ρ8 H8 J1 s8 r8 hJ1
                  split at h2'
                  · rename_i hp9 q4
                    have m8 : Made Γ F ρ1 hp'.N H1 D ρ8 hp7 H8 := ⟨m6.1.trans s8, r8, Nat.lt_of_lt_of_le m6.2.2.1 s8.le, (s8.agree _ m6.2.2.1).trans m6.2.2.2⟩
                    exact compN_run m8 hJ1 ((e6.mono s8).wipe vs1) (fun σ' a => wipe_agr a hsl1) q4 fun ρ' H' m9 _ => ⟨ρ', hp9, m9, h2'⟩
                  · cases h2'
                · cases h2'
            · cases h2'
theorem sim_comp2 [S : Sx X Γ W k] {elt tg iter tg1 iter1 : Expr} {ifs ifs1 : List Expr} {scope : Scope} {own : List (Str × Nat)} {vs1 : List Nat} {pos : Pos} {mi mi1 : M ITc} {t t1 : Tgt} {mt mt1 : M Bool} {me : M CV} (ok : BlkOk X.N X.env.scope scope own) (hi : SimI X Γ W tg iter mi)
    (hg : ∀ (s : Shared) (H : Hp) (C : Addr) (cl : List (Str × Addr)) (fp : List Addr), SimG (X.blk s H scope (compEnvC scope cl C X.env) fp) Γ tg t)
    (ht : ∀ (s : Shared) (H : Hp) (C : Addr) (cl : List (Str × Addr)) (fp : List Addr), SimTs (X.blk s H scope (compEnvC scope cl C X.env) fp) Γ W0 ifs mt)
    (hi1 : ∀ (s : Shared) (H : Hp) (C : Addr) (cl : List (Str × Addr)) (fp : List Addr), SimI (X.blk s H scope (compEnvC scope cl C X.env) fp) Γ W0 tg1 iter1 mi1)
    (hg1 : ∀ (s : Shared) (H : Hp) (C : Addr) (cl : List (Str × Addr)) (fp : List Addr), SimG (X.blk s H scope (compEnvC scope cl C X.env) fp) Γ tg1 t1)
    (ht1 : ∀ (s : Shared) (H : Hp) (C : Addr) (cl : List (Str × Addr)) (fp : List Addr), SimTs (X.blk s H scope (compEnvC scope cl C X.env) fp) Γ W0 ifs1 mt1)
    (he : ∀ (s : Shared) (H : Hp) (C : Addr) (cl : List (Str × Addr)) (fp : List Addr), SimE (X.blk s H scope (compEnvC scope cl C X.env) fp) Γ W0 elt me)
    (hsl : ∀ j ∈ t.sl, j ∈ own.map (·.2) := by decide) (hsl1 : ∀ j ∈ t1.sl, j ∈ vs1 := by decide) (hv : ∀ i ∈ vs1, i ∈ own.map (·.2) := by decide)
    (hs : ∀ x, foldedSetIterable iter X.env x = pure x := by intro _; rfl) (hs1 : ∀ env x, foldedSetIterable iter1 env x = pure x := by intro _ _; rfl) :
    SimE X Γ W (.ListComp elt [⟨tg, iter, ifs, 0⟩, ⟨tg1, iter1, ifs1, 0⟩] scope pos) (eComp2 mi t mt mi1 t1 mt1 me (own.map (·.2)) vs1) :=
  pe_imp (pe_lc2 S.calm S.nd hi ok hv hg ht hi1 hg1 ht1 he hs hs1) fun _ _ _ q => comp2_ok hsl hsl1 q
theorem sim_setComp2 [S : Sx X Γ W k] {i : Nat} {y : Str} {py : Pos} {elt tg iter tg1 iter1 : Expr} {ifs ifs1 : List Expr} {scope : Scope} {own : List (Str × Nat)} {vs1 : List Nat} {pos spos : Pos} {mi mi1 : M ITc} {t t1 : Tgt} {mt mt1 : M Bool} {me : M CV} (hy : X.N[i]? = some y) (hyl : X.env.scope.names.lookup y = some .local)
    (hsw : swapsWith (.ListComp elt [⟨tg, iter, ifs, 0⟩, ⟨tg1, iter1, ifs1, 0⟩] scope pos) (some (.Name y py)) spos.line X.env = pure true) (ok : BlkOk X.N X.env.scope scope own) (hi : SimI X Γ W tg iter mi)
    (hg : ∀ (s : Shared) (H : Hp) (C : Addr) (cl : List (Str × Addr)) (fp : List Addr), SimG (X.blk s H scope (compEnvC scope cl C X.env) fp) Γ tg t)
    (ht : ∀ (s : Shared) (H : Hp) (C : Addr) (cl : List (Str × Addr)) (fp : List Addr), SimTs (X.blk s H scope (compEnvC scope cl C X.env) fp) Γ W0 ifs mt)
    (hi1 : ∀ (s : Shared) (H : Hp) (C : Addr) (cl : List (Str × Addr)) (fp : List Addr), SimI (X.blk s H scope (compEnvC scope cl C X.env) fp) Γ W0 tg1 iter1 mi1)
    (hg1 : ∀ (s : Shared) (H : Hp) (C : Addr) (cl : List (Str × Addr)) (fp : List Addr), SimG (X.blk s H scope (compEnvC scope cl C X.env) fp) Γ tg1 t1)
    (ht1 : ∀ (s : Shared) (H : Hp) (C : Addr) (cl : List (Str × Addr)) (fp : List Addr), SimTs (X.blk s H scope (compEnvC scope cl C X.env) fp) Γ W0 ifs1 mt1)
    (he : ∀ (s : Shared) (H : Hp) (C : Addr) (cl : List (Str × Addr)) (fp : List Addr), SimE (X.blk s H scope (compEnvC scope cl C X.env) fp) Γ W0 elt me)
    (hsl : ∀ j ∈ t.sl, j ∈ own.map (·.2) := by decide) (hsl1 : ∀ j ∈ t1.sl, j ∈ vs1 := by decide) (hv : ∀ i ∈ vs1, i ∈ own.map (·.2) := by decide)
    (hs : ∀ x, foldedSetIterable iter X.env x = pure x := by intro _; rfl) (hs1 : ∀ env x, foldedSetIterable iter1 env x = pure x := by intro _ _; rfl) :
    SimS X Γ W (.Assign [.Name y py] (.ListComp elt [⟨tg, iter, ifs, 0⟩, ⟨tg1, iter1, ifs1, 0⟩] scope pos) spos) (sAsg (gNm i) (eComp2 mi t mt mi1 t1 mt1 me (own.map (·.2)) vs1)) :=
  ps_imp (ps_setLc2 S.calm S.nd hy hyl hsw hi ok hv hg ht hi1 hg1 ht1 he hs hs1) fun D σ H q => by
    obtain ⟨F, env, q⟩ := rdS_first (re := reV Γ) q
    refine comp2_ok hsl hsl1 (rd_mono q fun x H1 ⟨ρ1, hp1, a, r1, e1, h1, p1⟩ => ?_)
    exact p1.nx r1 (e1.set h1 i)
end
end Bl

/-! Own layer, part K: defs and calls; scopes; a store into a list; slices. -/
namespace Bl
open PySem PySem.Spec PyProof.Rows L2

/-! ### defs -/
/-- a def with n slots -/
def fnM (n : Nat) (body : MS) : Fn := fun args hp => match body (args.map some ++ List.replicate (n - args.length) none) hp with
  | .ok (.nx _) hp' => .ok .non hp'
  | .ok (.rt v) hp' => .ok v hp'
  | .ok (.ex c fs _) hp' => .exc c fs hp'
  | _ => .stuck
abbrev WK (E : XK) : WX := fun c d _ H => E c d H
/-- a def's promise by its clean function -/
def spF (Γ : Gx) (n : Nat) (f : Fn) : Sp := fun vs H Q E => vs.length = n ∧ ∃ ρ F hp args, SRh Γ ρ F hp H ∧ Reps Γ ρ hp.N H hp.N args vs ∧ Post Γ F (WK E) [] ρ hp.N H (reV Γ) (f args hp) Q
theorem post_wk {Γ : Gx} {α β : Type} {F : List Nat} {E : XK} {W : WX} {σ σ' : L2.St} {ρ : Nat → Addr} {N : Nat} {H : Hp} {re : Re α β} {r : R α} {Q : β → Hp → Prop} (hW : ∀ c d H', W c d σ H' → E c d H') (h : Post Γ F W σ ρ N H re r Q) : Post Γ F (WK E) σ' ρ N H re r Q := by
  cases r with
  | ok v hp' => exact h
  | exc c fs hp' => exact fun ρ' H' d s r q => hW _ _ _ (h ρ' H' d s r q)
  | stuck => exact h
section
variable {X : Cx} {Γ : Gx} {W : WX} {k : Nat} {F : List Nat} {ρ : Nat → Addr} {N : Nat} {H : Hp} {σ : L2.St} {env : En} {hp : Hc} {D : Ends} {pos : Pos}
theorem start_rep {NN : List Str} {ρ : Nat → Addr} {hp : Hc} {H : Hp} {args : List CV} {vs : List V} (h : Reps Γ ρ hp.N H hp.N args vs) : SRe Γ ρ hp.N H (L2.start NN vs) (args.map some ++ List.replicate (NN.length - args.length) none) := by
  have hl := h.len
  refine ⟨?_, fun i v q => ?_⟩
  · unfold L2.start
    simp only [List.length_append, List.length_map, List.length_replicate, hl]
  · unfold L2.start
    by_cases hi : i < args.length
    · rw [List.getElem?_append_left (by simpa using hi)] at q
      rw [List.getElem?_append_left (by simpa [← hl] using hi)]
      rw [List.getElem?_map] at q ⊢
      cases e : args[i]? with
      | none => rw [e] at q; cases q
      | some z =>
        rw [e] at q
        have ez : z = v := Option.some.inj (Option.some.inj q)
        subst ez
        obtain ⟨w, e1, r1⟩ := h.get e
        exact ⟨w, by rw [e1]; rfl, r1⟩
    · rw [List.getElem?_append_right (by simpa using Nat.le_of_not_lt hi)] at q
      rw [List.getElem?_replicate] at q
      split at q <;> cases q
/-- THE RULE for a def -/
theorem fn_ok {P : Program} {w : World} {K : PySem.W.Frag} {mg : Str → Option Value} {base : Heap} {x qual : Str} {st : Stmt} {f : Addr} {fd : FuncData} {NN ps : List Str} {k n : Nat} {body : MS}
    (F : Fun K x qual st f fd) (S : FnScope NN ps (defScope st)) (hK : Γ.K = K) (hn : ps.length = n)
    (hb : ∀ (cdv : Value) (A : Around) (outer : List Env) (s : Shared) (H : Hp) (E : XK), Sx (cxOf (L2.CX P w) P w K mg base NN qual (defScope st) f cdv A outer s H E) Γ (WK E) k →
      SimSs (cxOf (L2.CX P w) P w K mg base NN qual (defScope st) f cdv A outer s H E) Γ (WK E) (defBody st) body) :
    FnOk P w K mg base (L2.CX P w) (k + 1) f fd ps (spF Γ n (fnM NN.length body)) := by
  refine F.okX S (fun vs H Q E h => h.1.trans hn.symm) (fun cdv A outer s H vs Q E hr h => ⟨_, hb cdv A outer s H E ⟨hK.symm, rfl, S.nd, hr, takes_of rfl rfl rfl rfl⟩, ?_⟩)
  obtain ⟨hl, ρ, F', hp, args, r, e, p⟩ := h
  refine ⟨ρ, F', hp, _, r, start_rep e, ?_⟩
  unfold fnM at p
  revert p
  generalize body (args.map some ++ List.replicate (NN.length - args.length) none) hp = z
  intro p
  cases z with
  | stuck => exact p
  | ok fl hp' =>
    cases fl with
    | nx env => exact fun ρ' H' σ' s r' _ => p ρ' H' _ s r' repN
    | rt v => exact p
    | bk env => exact p.elim
    | ct env => exact p.elim
    | ex c fs env => exact fun ρ' H' σ' d s r' q _ => p ρ' H' d s r' q
/-- a global name that holds a def -/
def Kn (P : Program) (w : World) (K : PySem.W.Frag) (mg : Str → Option Value) (base : Heap) (Γ : Gx) (k : Nat) (x : Str) (n : Nat) (f : Fn) : Prop :=
  ∃ g fd ps, FnOk P w K mg base (L2.CX P w) k g fd ps (spF Γ n f) ∧ mg x = some (.ref g) ∧ PySem.W.keepIn K (.ref g) = true ∧ Binds K fd ps []
section
variable {P : Program} {w : World} {K : PySem.W.Frag} {mg : Str → Option Value} {base : Heap} {x : Str} {n : Nat} {f g : Fn}
theorem Kn.mono {k' : Nat} (h : Kn P w K mg base Γ k x n f) (le : k ≤ k') : Kn P w K mg base Γ k' x n f :=
  let ⟨g, fd, ps, h1, h2, h3, h4⟩ := h
  ⟨g, fd, ps, h1.mono le, h2, h3, h4⟩
/-- a clean function that says less -/
theorem Kn.imp (h : Kn P w K mg base Γ k x n f) (hfg : ∀ args hp, g args hp = .stuck ∨ f args hp = g args hp) : Kn P w K mg base Γ k x n g := by
  obtain ⟨a, fd, ps, h1, h2, h3, h4⟩ := h
  refine ⟨a, fd, ps, h1.imp fun vs H Q E q => ?_, h2, h3, h4⟩
  obtain ⟨hl, ρ, F, hp, args, r, e, p⟩ := q
  refine ⟨hl, ρ, F, hp, args, r, e, ?_⟩
  rcases hfg args hp with z | z
  · rw [z] at p; exact p.elim
  · rw [z]; exact p
theorem Kn.of (h : Kn P w K mg base Γ k x n f) (hfg : ∀ args hp, f args hp = g args hp) : Kn P w K mg base Γ k x n g := h.imp fun a p => .inr (hfg a p)
theorem kn_stuck {fa : Addr} {fd : FuncData} {ps : List Str} (hm : mg x = some (.ref fa)) (hk : PySem.W.keepIn K (.ref fa) = true) (hb : Binds K fd ps []) : Kn P w K mg base Γ 0 x n (fun _ _ => .stuck) :=
  ⟨fa, fd, ps, ⟨fun _ _ _ _ h => by obtain ⟨_, _, _, _, _, _, _, p⟩ := h; exact p.elim, fun _ _ _ _ _ _ _ _ _ _ _ _ _ h => by obtain ⟨_, _, _, _, _, _, _, p⟩ := h; exact p.elim⟩, hm, hk, hb⟩
/-- the same, the new objects frozen behind it -/
def scop (f : Fn) : Fn := fun args hp => match f args ⟨hp.N, hp.os⟩ with
  | .ok v hp' => match frzV hp'.os hp.N v with
    | some v' => .ok v' (hp'.cut hp.fl hp.N)
    | none => .stuck
  | .exc c fs hp' => .exc c fs (hp'.cut hp.fl hp.N)
  | .stuck => .stuck
end
mutual
theorem rep_lim {ρ : Nat → Addr} {N : Nat} {H : Hp} {m : Nat} : ∀ (x : CV) {v : V}, Rep Γ ρ N H m x v → limV m x = true
  | .non, v, h => rfl
  | .bl b, v, h => rfl
  | .int i, v, h => rfl
  | .str s, v, h => rfl
  | .ref n, v, h => by unfold Rep at h; unfold limV; exact decide_eq_true h.1
  | .tup xs, v, h => by
    unfold Rep at h; unfold limV
    obtain ⟨a, vs, _, _, q⟩ := h
    exact reps_lim xs q
  | .wtp xs, v, h => rfl
  | .wdc i, v, h => rfl
  | .lst xs, v, h => rfl
  | .dct _ _, v, h => rfl
  | .ins _ _, v, h => rfl
theorem reps_lim {ρ : Nat → Addr} {N : Nat} {H : Hp} {m : Nat} : ∀ (xs : List CV) {vs : List V}, Reps Γ ρ N H m xs vs → limL m xs = true
  | [], vs, h => rfl
  | x :: xs, vs, h => by
    unfold Reps at h; unfold limL
    obtain ⟨v, r, _, h1, h2⟩ := h
    rw [rep_lim x h1, reps_lim xs h2]; rfl
end
theorem repK_lim {ρ : Nat → Addr} {N : Nat} {H : Hp} {m : Nat} : ∀ (xs : List (CV × CV)) {vs : List (Key × V)}, RepK Γ ρ N H m xs vs → limK m xs = true
  | [], vs, h => rfl
  | (a, x) :: xs, vs, h => by
    unfold RepK at h; unfold limK
    obtain ⟨_, v, r, _, _, h1, h2⟩ := h
    show (limV m x && limK m xs) = true
    rw [rep_lim x h1, repK_lim xs h2]; rfl
theorem repT_lim {ρ : Nat → Addr} {N : Nat} {H : Hp} {m : Nat} : ∀ (xs : List (CV × CV)) {vs : List (List Key × V)}, RepT Γ ρ N H m xs vs → limK m xs = true
  | [], vs, h => rfl
  | (a, x) :: xs, vs, h => by
    unfold RepT at h; unfold limK
    obtain ⟨_, v, r, _, _, h1, h2⟩ := h
    show (limV m x && limK m xs) = true
    rw [rep_lim x h1, repT_lim xs h2]; rfl
theorem repF_lim {ρ : Nat → Addr} {N : Nat} {H : Hp} {m : Nat} : ∀ (xs : List (Nat × CV)) {vs : List (Str × V)}, RepF Γ ρ N H m xs vs → limF m xs = true
  | [], vs, h => rfl
  | (a, x) :: xs, vs, h => by
    unfold RepF at h; unfold limF
    obtain ⟨v, r, _, h1, h2⟩ := h
    show (limV m x && limF m xs) = true
    rw [rep_lim x h1, repF_lim xs h2]; rfl
theorem repO_lim {ρ : Nat → Addr} {N : Nat} {H : Hp} {m : Nat} {a : Addr} : ∀ {o : CO}, RepO Γ ρ N H m a o → limO m o = true
  | .lst xs, h => let ⟨_, _, q⟩ := h; reps_lim xs q
  | .dic false kvs, h => let ⟨_, _, q⟩ := h; repK_lim kvs q
  | .dic true kvs, h => let ⟨_, _, q⟩ := h; repT_lim kvs q
  | .ins c fs, h => let ⟨_, _, _, q⟩ := h; repF_lim fs q
/-- into a scope -/
theorem SRh.into (r : SRh Γ ρ F hp H) : SRh Γ ρ (hp.N :: F) ⟨hp.N, hp.os⟩ H := by
  refine ⟨r.inj, r.obj, Nat.le_refl _, fun f hf => ?_, r.tab⟩
  rcases List.mem_cons.mp hf with rfl | hf
  · exact ⟨Nat.le_refl _, fun i o _ e => repO_lim (r.obj i o e)⟩
  · exact ⟨Nat.le_trans (r.fls f hf).1 r.fl, (r.fls f hf).2⟩
theorem Step.cutN {ρ ρ' : Nat → Addr} {N N' : Nat} {H H' : Hp} (s : Step ρ N H ρ' N' H') : Step ρ N H ρ' N H' :=
  ⟨Nat.le_refl _, s.agree, fun a u h => (s.keep a u h).trunc s.le, fun a u q h => (s.keepI a u q h).trunc s.le⟩
theorem excR_trunc {ρ : Nat → Addr} {N N' : Nat} {H : Hp} {fs : List (Nat × CV)} {d : Option Addr} (le : N ≤ N') (h : ExcR Γ ρ N' H fs d) : ExcR Γ ρ N H fs d := by
  rcases h with h | ⟨a, ds, e1, e2, q⟩
  · exact .inl h
  · exact .inr ⟨a, ds, e1, e2, RepF.trunc le _ (.inl rfl) q⟩
theorem scop_post {f : Fn} {args : List CV} {Q : VK} (r : SRh Γ ρ F hp H) (p : Post Γ F W σ ρ hp.N H (reV Γ) (scop f args hp) Q) : Post Γ (hp.N :: F) W σ ρ hp.N H (reV Γ) (f args ⟨hp.N, hp.os⟩) Q := by
  unfold scop at p
  revert p
  generalize f args ⟨hp.N, hp.os⟩ = z
  intro p
  have hfl : hp.fl ≤ hp.N := r.fl
  have hF : ∀ f ∈ F, f ≤ hp.fl := fun f hf => (r.fls f hf).1
  cases z with
  | stuck => exact p
  | exc c fs hp' =>
    intro ρ' H' d s r' q
    refine p ρ' H' d ?_ (r'.cut s.le hfl hF) ?_
    · rw [Hc.cut_N s.le]; exact s.cutN
    · rw [Hc.cut_N s.le]; exact excR_trunc s.le q
  | ok v hp' =>
    intro ρ' H' x s r' q
    have p' : Post Γ F W σ ρ hp.N H (reV Γ) (match frzV hp'.os hp.N v with | some v' => R.ok v' (hp'.cut hp.fl hp.N) | none => .stuck) Q := p
    split at p'
    · rename_i v' e
      refine p' ρ' H' x ?_ (r'.cut s.le hfl hF) ?_
      · rw [Hc.cut_N s.le]; exact s.cutN
      · show Rep Γ ρ' (hp'.cut hp.fl hp.N).N H' (hp'.cut hp.fl hp.N).N v' x
        rw [Hc.cut_N s.le]; exact frzV_ok r' s.le e q
    · exact p'.elim
theorem Kn.scop {P : Program} {w : World} {K : PySem.W.Frag} {mg : Str → Option Value} {base : Heap} {x : Str} {n : Nat} {f : Fn} (h : Kn P w K mg base Γ k x n f) : Kn P w K mg base Γ k x n (Bl.scop f) := by
  obtain ⟨a, fd, ps, h1, h2, h3, h4⟩ := h
  refine ⟨a, fd, ps, h1.imp fun vs H Q E q => ?_, h2, h3, h4⟩
  obtain ⟨hl, ρ, F, hp, args, r, e, p⟩ := q
  exact ⟨hl, ρ, hp.N :: F, ⟨hp.N, hp.os⟩, args, r.into, e, scop_post r p⟩

/-! ### calls -/
theorem R.bind_ok {α β : Type} {r : R α} {f : α → Hc → R β} {b : β} {hp' : Hc} (h : r.bind f = .ok b hp') : ∃ a hp1, r = .ok a hp1 ∧ f a hp1 = .ok b hp' := by
  cases r with
  | ok a hp1 => exact ⟨a, hp1, rfl, h⟩
  | exc c fs hp1 => cases h
  | stuck => cases h
theorem evA_len : ∀ {ms : List (M CV)} {env : En} {hp hp' : Hc} {vs : List CV}, evA ms env hp = .ok vs hp' → vs.length = ms.length
  | [], _, _, _, _, h => by cases h; rfl
  | m :: ms, env, hp, hp', vs, h => by
    obtain ⟨v, h1, _, q⟩ := R.bind_ok h
    obtain ⟨ws, h2, e, q2⟩ := R.bind_ok q
    cases q2
    rw [List.length_cons, List.length_cons, evA_len e]
theorem call_ok {n : Nat} {f : Fn} {ms : List (M CV)} {Q : VK} (hn : ms.length = n) (q : rd Γ W (reV Γ) (eBi f ms) σ H Q) : tCallS (spF Γ n f) (WE W) (rd Γ W (reA Γ) (evA ms)) σ H Q := by
  obtain ⟨ρ, F, hp, env, r0, e0, p⟩ := q
  refine ⟨ρ, F, hp, env, r0, e0, ?_⟩
  unfold eBi at p
  cases z : evA ms env hp with
  | stuck => rw [z] at p; exact p
  | exc c fs hp' => rw [z] at p; exact p
  | ok vs hp' =>
    have hl := evA_len z
    rw [z] at p
    intro ρ' H' xs s r e
    exact ⟨by rw [← Reps.len e, hl, hn], ρ', F, hp', vs, r, e, post_wk (fun _ _ _ h => h) (Post.step s (show Post Γ F W σ ρ hp.N H (reV Γ) (f vs hp') Q from p))⟩
theorem sim_call [S : Sx X Γ W k] {kf n : Nat} {x : Str} {p : Pos} {e : Expr} {es : List Expr} {f : Fn} {ms : List (M CV)} (h : Kn X.prog X.w X.K X.mg X.base Γ kf x n f) (le : kf ≤ k) (ha : SimA X Γ W (e :: es) (evA ms)) (hn : ms.length = n := by rfl) (hg : Gl X x := by rfl)
    (hdb : (x == ("__debug__" : Str)) = false := by decide) (he : starEach (e :: es) X.env = (false, eval e X.env) :: starEach es X.env := by rfl) (hpl : (backTo pos (starEach es X.env)).any (·.1) = false := by rfl) :
    SimE X Γ W (.Call (.Name x p) (e :: es) [] pos) (eBi f ms) := by
  obtain ⟨g, fd, ps, h1, h2, h3, h4⟩ := h
  exact pe_imp (pe_callS h1 (S.room.mono le) hg h2 h3 h4 (fun σ => passAt S.tk σ) ha hdb he hpl) fun _ _ _ q => call_ok hn q
/-- f() -/
def eCall0 (f : Fn) : M CV := fun _ hp => f [] hp
theorem sim_call0 [S : Sx X Γ W k] {kf : Nat} {x : Str} {p : Pos} {f : Fn} (h : Kn X.prog X.w X.K X.mg X.base Γ kf x 0 f) (le : kf ≤ k) (hg : Gl X x := by rfl)
    (hdb : (x == ("__debug__" : Str)) = false := by decide) : SimE X Γ W (.Call (.Name x p) [] [] pos) (eCall0 f) := by
  obtain ⟨g, fd, ps, h1, h2, h3, h4⟩ := h
  have z : PE X (.Call (.Name x p) [] [] pos) (tCallS (spF Γ 0 f) (WE W) tNil) := ⟨fun pins s σ H Q I q =>
    wpAny_Call_Name_kw (ld_glob I hg h2 (PySem.W.callWith_K0 I.kIn h3 (run_fnS (us := []) h1 (S.room.mono le) h4 (passAt S.tk σ) I .nil q)) hdb)⟩
  refine pe_imp z fun σ H Q q => ?_
  obtain ⟨ρ, F, hp, env, r0, e0, p⟩ := q
  exact ⟨rfl, ρ, F, hp, [], r0, by unfold Reps; rfl, post_wk (fun _ _ _ h => h) p⟩

/-! ### a store into a list -/
def sSetL (v a i : M CV) : MS := fun env hp => RS.of (v env hp) env fun x hp => RS.of (a env hp) env fun o hp => RS.of (i env hp) env fun j hp => match o, j with
  | .ref n, .int z => match hp.os[n]? with
    | some (.lst xs) => match ixN xs.length z with
      | some q => if (decide (n < hp.fl) && !limL (n + 1) (xs.set q x)) = true then .stuck else .ok (.nx env) (hp.set n (.lst (xs.set q x)))
      | none => .stuck
    | _ => .stuck
  | _, _ => .stuck
theorem Reps.set {ρ : Nat → Addr} {N : Nat} {H : Hp} {m : Nat} {x : CV} {v : V} (hx : Rep Γ ρ N H m x v) : ∀ {xs : List CV} {vs : List V} {i : Nat}, Reps Γ ρ N H m xs vs → Reps Γ ρ N H m (xs.set i x) (vs.set i v)
  | [], vs, i, h => by unfold Reps at h; subst h; exact (by unfold Reps; rfl)
  | y :: xs, vs, 0, h => by
    unfold Reps at h
    obtain ⟨w, r, rfl, _, h2⟩ := h
    show Reps Γ ρ N H m (x :: xs) (v :: r)
    unfold Reps; exact ⟨v, r, rfl, hx, h2⟩
  | y :: xs, vs, i + 1, h => by
    unfold Reps at h
    obtain ⟨w, r, rfl, h1, h2⟩ := h
    show Reps Γ ρ N H m (y :: xs.set i x) (w :: r.set i v)
    unfold Reps; exact ⟨w, _, rfl, h1, Reps.set hx h2⟩
theorem sim_setL [S : Sx X Γ W k] {a i e : Expr} {v ma mi : M CV} {p1 pos : Pos} (hv : SimE X Γ W e v) (ha : SimE X Γ W a ma) (hi : SimE X Γ W i mi)
    (hs : swapsWithSole [.Subscript a i p1] e pos.line X.env = pure false := by rfl) (hw : swappedStores [.Subscript a i p1] e X.env = pure none := by rfl)
    (h1 : (assignEach [.Subscript a i p1] X.env).map (·.2) = [assign (.Subscript a i p1) X.env] := by rfl)
    (h2 : ∀ v, assign (.Subscript a i p1) X.env v = (do
      let ov ← holding [v] (eval a X.env)
      let iv ← holding [v, ov] (eval i X.env)
      standAt p1
      holding [v, ov, iv] (setItem ov iv v)
      release [v, ov, iv] []) := by intro _; rfl) : SimS X Γ W (.Assign [.Subscript a i p1] e pos) (sSetL v ma mi) :=
  ps_imp (ps_asg hv (pg_sub ha hi set_list h2) hs hw h1) fun D σ H q => by
    obtain ⟨F, env, q⟩ := rdS_first (re := reV Γ) q
    refine rd_mono q fun x H1 ⟨ρ1, hp1, cx, r1, e1, g1, p1⟩ => ?_
    refine rd_mono (rdS_next (re := reV Γ) r1 e1 p1) fun o H2 ⟨ρ2, hp2, co, s2, r2, e2, g2, p2⟩ => ?_
    refine rd_mono (rdS_next (re := reV Γ) r2 e2 p2) fun j H3 ⟨ρ3, hp3, cj, s3, r3, e3, g3, p3⟩ => ?_
    have gx : Rep Γ ρ3 hp3.N H3 hp3.N cx x := g1.mono (s2.trans s3) (Nat.le_refl _) (s2.trans s3).le
    have go : Rep Γ ρ3 hp3.N H3 hp3.N co o := g2.mono s3 (Nat.le_refl _) s3.le
    have gj : Rep Γ ρ3 hp3.N H3 hp3.N cj j := g3
    split at p3
    · rename_i n z _
      unfold Rep at go gj
      obtain ⟨hn, rfl⟩ := go
      subst gj
      split at p3
      · rename_i xs he
        split at p3
        · rename_i t ht
          split at p3
          · exact p3.elim
          · rename_i hc
            obtain ⟨vs, a1, a2⟩ := r3.obj _ _ he
            refine ⟨_, vs, z, t, rfl, rfl, a1, by rw [← a2.len]; exact ht, ?_⟩
            have st : Step ρ3 hp3.N H3 ρ3 hp3.N (upd H3 (ρ3 n) (.lst (vs.set t x))) := step_write hn
            have nw : Reps Γ ρ3 hp3.N (upd H3 (ρ3 n) (.lst (vs.set t x))) hp3.N (xs.set t cx) (vs.set t x) := (Reps.set gx a2).mono st (Nat.le_refl _) (Nat.le_refl _)
            have w := r3.write (c := .lst (xs.set t cx)) (o := .lst (vs.set t x)) hn (fun hl => by
              by_cases hz : limL (n + 1) (xs.set t cx) = true
              · exact hz
              · exact absurd (by rw [decide_eq_true hl, Bool.not_eq_true] at *; simp [hz]) hc) (fun f hf hq => limO_mono hf _ hq) ⟨_, upd_same, nw⟩
            exact p3 ρ3 _ σ (by rw [Hc.set_N]; exact st) w (by rw [Hc.set_N]; exact e3.mono st)
        · exact p3.elim
      · exact p3.elim
    · exact p3.elim
/-! ### slices -/
def cutC {α : Type} (xs : List α) (lo hi : Option Int) : List α := (xs.drop (HT.sIx xs.length 0 lo)).take (HT.sIx xs.length xs.length hi - HT.sIx xs.length 0 lo)
def wholeC (n : Nat) (lo hi : Option Int) : Bool := decide (HT.sIx n 0 lo = 0) && decide (HT.sIx n n hi = n)
def vSl (a : CV) (lo hi : Option Int) (hp : Hc) : R CV := match a with
  | .str s => if okLen s.length = true then .ok (.str (cutC s lo hi)) hp else .stuck
  | .tup xs => if wholeC xs.length lo hi = true then .ok (.tup xs) hp else .ok (.tup (cutC xs lo hi)) hp
  | .wtp xs => if wholeC xs.length lo hi = true then .ok (.wtp xs) hp else .ok (.tup (cutC xs lo hi)) hp
  | a => match seqItems hp a with
    | some xs => newL (cutC xs lo hi) hp
    | none => .stuck
def ePart : Option (M CV) → M (Option Int)
  | none => fun _ hp => .ok none hp
  | some m => fun env hp => (m env hp).bind fun v hp => match v with
    | .int i => .ok (some i) hp
    | _ => .stuck
def eSl (a : M CV) (lo hi : Option (M CV)) : M CV := fun env hp => (a env hp).bind fun x hp => (ePart lo env hp).bind fun l hp => (ePart hi env hp).bind fun u hp => vSl x l u hp
abbrev reO : Re (Option Int) (Option Int) := fun _ _ _ b c => b = c
abbrev SimO (X : Cx) (Γ : Gx) (W : WX) (e : Option Expr) (m : Option (M CV)) : Prop := PO X e (rd Γ W reO (ePart m))
theorem po_imp {e : Option Expr} {t t' : TO} (h : PO X e t) (i : ∀ σ H Q, t' σ H Q → t σ H Q) : PO X e t' := ⟨fun pins s σ H Q I q => h.run pins s σ H Q I (i σ H Q q)⟩
theorem sim_ono : SimO X Γ W none none := po_imp po_none fun σ H Q h => by
  obtain ⟨ρ, F, hp, env, r, e, p⟩ := h
  exact p.ok r rfl
theorem sim_osome {e : Expr} {m : M CV} (h : SimE X Γ W e m) : SimO X Γ W (some e) (some m) := po_imp (po_some h) fun σ H Q h => by
  obtain ⟨ρ, F, hp, env, r, e, p⟩ := h
  refine rd_mono (rd_next (re := reV Γ) r e p) fun x H1 ⟨ρ1, hp1, v, s1, r1, e1, h1, p1⟩ => ?_
  split at p1
  · unfold Rep at h1; subst h1
    exact ⟨_, rfl, p1.ok r1 rfl⟩
  · exact p1.elim
theorem Reps.drop {ρ : Nat → Addr} {N : Nat} {H : Hp} {m : Nat} : ∀ {xs : List CV} {vs : List V} (i : Nat), Reps Γ ρ N H m xs vs → Reps Γ ρ N H m (xs.drop i) (vs.drop i)
  | xs, vs, 0, h => h
  | [], vs, i + 1, h => by unfold Reps at h; subst h; exact (by unfold Reps; rfl)
  | y :: xs, vs, i + 1, h => by
    unfold Reps at h
    obtain ⟨w, r, rfl, _, h2⟩ := h
    exact Reps.drop i h2
theorem Reps.take {ρ : Nat → Addr} {N : Nat} {H : Hp} {m : Nat} : ∀ {xs : List CV} {vs : List V} (i : Nat), Reps Γ ρ N H m xs vs → Reps Γ ρ N H m (xs.take i) (vs.take i)
  | xs, vs, 0, h => by unfold Reps; rfl
  | [], vs, i + 1, h => by unfold Reps at h; subst h; exact (by unfold Reps; rfl)
  | y :: xs, vs, i + 1, h => by
    unfold Reps at h
    obtain ⟨w, r, rfl, h1, h2⟩ := h
    show Reps Γ ρ N H m (y :: xs.take i) (w :: r.take i)
    unfold Reps; exact ⟨w, _, rfl, h1, Reps.take i h2⟩
theorem reps_cut {ρ : Nat → Addr} {N : Nat} {H : Hp} {m : Nat} {xs : List CV} {vs : List V} (lo hi : Option Int) (h : Reps Γ ρ N H m xs vs) : Reps Γ ρ N H m (cutC xs lo hi) (cutV vs lo hi) := by
  unfold cutC cutV
  rw [h.len]
  exact (h.drop _).take _
theorem sOf_cut (s : List Nat) (lo hi : Option Int) : sOf (cutC s lo hi) = cutS (sOf s) lo hi := by
  unfold cutS cutC sOf
  rfl
theorem wholeC_iff {n : Nat} {lo hi : Option Int} : wholeC n lo hi = true ↔ (HT.sIx n 0 lo = 0 ∧ HT.sIx n n hi = n) := by
  unfold wholeC
  rw [Bool.and_eq_true, decide_eq_true_eq, decide_eq_true_eq]
theorem tup_slice {ρ : Nat → Addr} {K : PySem.W.Frag} {a : Addr} {vs : List V} {xs : List CV} {v : CV} {lo hi : Option Int} {Q : VK} (r : SRh Γ ρ F hp H) (hK : K = Γ.K) (h1 : SqT Γ.K H a vs) (h2 : Reps Γ ρ hp.N H hp.N xs vs) (hv : Rep Γ ρ hp.N H hp.N v (.ref a))
    (p : Post Γ F W σ ρ hp.N H (reV Γ) (if wholeC xs.length lo hi = true then .ok v hp else .ok (.tup (cutC xs lo hi)) hp) Q) : rSlA K (.ref a) lo hi H Q := by
  subst hK
  refine ⟨a, vs, rfl, h1, fun hw => ?_, fun hw l hl => ?_⟩
  · rw [← h2.len] at hw
    rw [if_pos (wholeC_iff.mpr hw)] at p
    exact p.ok r hv
  · rw [← h2.len] at hw
    rw [if_neg fun z => hw (wholeC_iff.mp z)] at p
    exact p ρ _ _ (step_new hl) (r.new hl) (rep_newT r hl (reps_cut lo hi h2))
theorem sim_sl [S : Sx X Γ W k] {e : Expr} {lo hi : Option Expr} {m : M CV} {ml mh : Option (M CV)} {p2 pos : Pos} (h : SimE X Γ W e m) (hl : SimO X Γ W lo ml) (hu : SimO X Γ W hi mh) : SimE X Γ W (.Subscript e (.Slice lo hi none p2) pos) (eSl m ml mh) :=
  pe_imp (pe_slice ((sl_list.or sl_tupA).or sl_str) h hl hu) fun σ H Q q => by
    obtain ⟨ρ, F, hp, env, r0, e0, p⟩ := q
    refine rd_mono (rd_next (re := reV Γ) r0 e0 p) fun x H1 ⟨ρ1, hp1, a, s1, r1, e1, g1, p1⟩ => ?_
    refine rd_mono (rd_next (re := reO) r1 e1 p1) fun l H2 ⟨ρ2, hp2, cl, s2, r2, e2, g2, p2⟩ => ?_
    refine rd_mono (rd_next (re := reO) r2 e2 p2) fun u H3 ⟨ρ3, hp3, cu, s3, r3, e3, g3, p3⟩ => ?_
    cases (show cl = l from g2)
    cases (show cu = u from g3)
    have gx : Rep Γ ρ3 hp3.N H3 hp3.N a x := g1.mono (s2.trans s3) (Nat.le_refl _) (s2.trans s3).le
    clear g1 p2 p1 p
    unfold vSl at p3
    split at p3
    · unfold Rep at gx; subst gx
      split at p3
      · rename_i hz
        refine .inr ⟨_, rfl, by rw [sOf_len]; exact okLen_le hz, ?_⟩
        rw [← sOf_cut]
        exact p3.ok r3 repS
      · exact p3.elim
    · have gx' := gx
      unfold Rep at gx
      obtain ⟨b, vs, rfl, h1, h2⟩ := gx
      exact .inl (.inr (tup_slice r3 S.K (sqT_of h1) h2 gx' p3))
    · have gx' := gx
      unfold Rep at gx
      obtain ⟨b, vs, rfl, h1, h2⟩ := gx
      exact .inl (.inr (tup_slice r3 S.K (sqT_wr h1) (h2.mono Step.refl (Nat.zero_le _) (Nat.zero_le _)) gx' p3))
    · split at p3
      · rename_i xs he
        obtain ⟨b, vs, rfl, h1, h2⟩ := seqItems_list r3 (fun ys z => by subst z; rename_i hz _; exact (hz ys rfl).elim) (fun ys z => by subst z; rename_i hz; exact (hz ys rfl).elim) he gx
        exact .inl (.inl ⟨b, vs, rfl, S.K ▸ h1, fun l hl => post_newL r3 (reps_cut _ _ h2) hl p3⟩)
      · exact p3.elim
end
end Bl

/-! Own layer, part L: enumerate of a list, a tuple, a text. -/
namespace Bl
open PySem PySem.Spec PyProof.Rows L2

/-- enumerate(v) begins: v any of those that Begins tells of -/
theorem enum1_meets {v : Value} {o : Obj} {G : Heap → Prop} (B : Begins v o G) :
    Meets (Builtin.«enumerate.__new__» ⟨[.type "enumerate", v], []⟩)
      (fun _ R s => G s.heap ∧ R (.ok (.ret (.ref (s.heap.push o).objs.size)))
        { s with heap := (s.heap.push o).push { cls := .type "enumerate",
                                                data := .fields #[.none, .bool false, .ref s.heap.objs.size, rawInt 0, .none, .none] } }) :=
  .of_wp fun prog w A R s hs => by
    obtain ⟨hp, g, d, tk, os⟩ := s
    obtain ⟨hG, hR⟩ := hs
    have hsub := sub_enumerate
    have begin1 : ∀ {A' : Around} {E : Value → Shared → Prop} {Q : Value → Shared → Prop},
        Q (.ref hp.objs.size) ⟨hp.push o, g, d, tk, os⟩ → wpAny (model prog w) A' (pyIter v) Q E ⟨hp, g, d, tk, os⟩ :=
      fun q => B.iter prog w _ _ ⟨hp, g, d, tk, os⟩ _ hG q
    wp_walk using begin1
    refine wpAny_stack_any fun _ => wpAny_pure ?_
    split
    · rename_i c _ _ _ _ _
      cases (c == Value.type "enumerate") <;>
        · wp_walk using begin1
          exact ⟨_, rfl, hR⟩
    · wp_walk using begin1
      exact ⟨_, rfl, hR⟩
theorem enum1_begins {prog : Program} {w : World} {A : Around} {E : Value → Shared → Prop} {s : Shared} {v : Value} {o : Obj} {G : Heap → Prop} {Q : Value → Shared → Prop}
    (B : Begins v o G) (hG : G s.heap)
    (hQ : ∀ h', IsEnum h' (s.heap.objs.size + 1) s.heap.objs.size 0 .none → h'.get? s.heap.objs.size = some o →
      (∀ b z, s.heap.get? b = some z → h'.get? b = some z) → Q (.ref (s.heap.objs.size + 1)) { s with heap := h' }) :
    wpAny (model prog w) A (call (.type "enumerate") [v]) Q E s := by
  refine callType_new F.called_enumerate (by decide) (F.typeCall_enumerate_1 _) (F.newCall_enumerate_1 _)
    (fun obj => F.args_object_init_2 obj _) F.entry_enumerate_new (enum1_meets B) ⟨hG, ?_⟩
  have sz : (s.heap.push o).objs.size = s.heap.objs.size + 1 := Heap.size_push ..
  show _ ∧ _
  rw [sz]
  have at1 : IsEnum ((s.heap.push o).push { cls := .type "enumerate", data := .fields #[.none, .bool false, .ref s.heap.objs.size, rawInt 0, .none, .none] })
      (s.heap.objs.size + 1) s.heap.objs.size 0 .none := by
    have z := Heap.get?_push_size (s.heap.push o)
      (o := { cls := .type "enumerate", data := .fields #[.none, .bool false, .ref s.heap.objs.size, rawInt 0, .none, .none] }) rfl
    rwa [sz] at z
  exact ⟨⟨_, at1, rfl⟩, hQ _ at1 (Heap.get?_push_of_some _ (Heap.get?_push_size _ B.free)) fun b z q => Heap.get?_push_of_some _ (Heap.get?_push_of_some _ q)⟩
section
variable {X : Cx} {pins : List (Addr × Obj)} {σ : L2.St} {H : Hp} {s : Shared} {E : Value → Shared → Prop} {e it : Addr} {i n : Nat} {old : Value}
  {fp : List Addr} {P : Nat → Value → Prop} {St : Nat → Heap → Prop} {Y : V → Prop} {elts : List Expr} {kk : Nat} {tpos : Pos}
/-- one turn, by what the inner iterator draws -/
theorem enumD_item (I : Inv X pins σ H s) (hf : ∀ b ∈ [e, it], FpOk X pins H b) (he : IsEnum s.heap e it ((i : Nat) : Int) old) (hne : e ≠ it) (hil : it < s.heap.objs.size)
    (D : Draws X.prog X.w X.A.in1 it fp n P St) (hst : St i s.heap) (hlt : i < n) (hef : e ∉ fp) (hP : ∀ v, P i v → ∃ x, RelV x v ∧ Y x) :
    wpAny (model X.prog X.w) X.A (pyNext (.ref e)) (fun r s1 => ∃ u, r = some u ∧
      wpAny (model X.prog X.w) X.A (letOwnedTupleGo (.Tuple elts kk tpos) (.ref e) u) (fun _ s2 => ∃ x H', Inv X pins σ H' s2 ∧ RelV x u ∧
        (∃ T z, x = .ref T ∧ H T = none ∧ H' = upd H T (.tup [.int (i : Nat), z]) ∧ Y z) ∧
        ((∃ old', IsEnum s2.heap e it ((i + 1 : Nat) : Int) old') ∧ St (i + 1) s2.heap) ∧ ∀ b ∈ [e, it], H' b = none) E s1) E s := by
  have hel : e < s.heap.objs.size := Heap.lt_size he
  refine wpAny_pyNext_enum_itemC D he hst hlt hne hef fun u h' tk hu ho hst' hT hsz hk => ?_
  obtain ⟨z, rz, yz⟩ := hP u hu
  refine ⟨_, rfl, wpAny_letOwnedTupleGo_enum (s := { s with heap := h', toks := tk + 1 }) ho fun h2 he2 sb => ?_⟩
  have hT2 : h2.get? s.heap.objs.size = some { cls := .type "tuple", data := .seq #[.int i tk, u] } := (sb.2 _ (Nat.ne_of_gt hel)).trans hT
  have new : ObjOk X.prog X.w (upd H s.heap.objs.size (.tup [.int (i : Nat), z])) h2 s.heap.objs.size (.tup [.int (i : Nat), z]) := by
    refine ⟨by show 2 ≤ sizeLine; decide, [.int i tk, u], .cons ⟨_, rfl⟩ (.cons rz .nil), ?_⟩
    exact ⟨_, hT2, rfl, _, rfl⟩
  have I1 : Inv X pins σ (upd H s.heap.objs.size (.tup [.int (i : Nat), z])) { s with heap := h2, toks := tk + 1 } := by
    refine I.turnedNew (ch := [e, it]) (fun b ob hb q => ?_) hf (Nat.le_refl _) new
    have b1 : b ≠ e := fun z => hb (by simp [z])
    have b2 : b ≠ it := fun z => hb (by simp [z])
    exact (sb.2 b b1).trans (hk b ob b1 b2 q)
  refine ⟨.ref s.heap.objs.size, _, I1, rfl, ⟨_, z, rfl, I.hok.fresh (Nat.le_refl _), rfl, yz⟩, ⟨⟨u, ?_⟩, ?_⟩, fun b hb => ?_⟩
  · have e1 : ((i + 1 : Nat) : Int) = ((i : Nat) : Int) + 1 := by omega
    rw [e1]; exact he2
  · exact D.frame _ _ _ hst' fun b hb o q => (sb.2 b fun w => hef (w ▸ hb)).trans q
  · have hb' : b < s.heap.objs.size := by
      rcases List.mem_cons.mp hb with z | z
      · rw [z]; exact hel
      · rw [List.mem_singleton.mp z]; exact hil
    rw [upd_ne (Nat.ne_of_lt hb')]
    exact (hf b hb).1
theorem enumD_done (I : Inv X pins σ H s) (hf : ∀ b ∈ [e, it], FpOk X pins H b) {c : Int} (he : IsEnum s.heap e it c old)
    (D : Draws X.prog X.w X.A.in1 it fp n P St) (hst : St n s.heap) : wpAny (model X.prog X.w) X.A (pyNext (.ref e)) (fun r s1 => r = none ∧ Inv X pins σ H s1) E s := by
  obtain ⟨f0, f1, f2, f3, f4, f5⟩ := hf it (by simp)
  exact wpAny_pyNext_enum_endD D he hst fun h' eb => ⟨rfl, I.turned (t' := s.toks) (fun b o hb q => eb b o hb q) f0 f1 f3 f4 f5⟩
end
/-- the tuple at a, each item in a new pair -/
def IteT (K : PySem.W.Frag) (a : Addr) : It where
  go := fun i H => ∃ (xs : List V) (x : V), SqT K H a xs ∧ xs[i]? = some x
  yld := fun i H v H' => ∃ T x, v = .ref T ∧ H T = none ∧ H' = upd H T (.tup [.int (i : Nat), x]) ∧ ∀ xs, SqT K H a xs → xs[i]? = some x
  stop := fun i H => ∃ xs : List V, SqT K H a xs ∧ xs.length = i
theorem turn_enT {P : Program} {w : World} {K : PySem.W.Frag} {elts : List Expr} {kk : Nat} {tpos : Pos} (a e it : Addr) :
    Turn P w K (.Tuple elts kk tpos) (IteT K a) [e, it] e (fun i h => ((∃ old, IsEnum h e it ((i : Nat) : Int) old) ∧ h.IsTupleIter it a i) ∧ e ≠ it) where
  mem := by simp
  obj := fun i h st b hb => by
    obtain ⟨⟨⟨old, he⟩, ⟨o, ho, hc, hd⟩⟩, _⟩ := st
    rcases List.mem_cons.mp hb with z | z
    · rw [z]; exact ⟨_, he, fun v q => nomatch q⟩
    · rw [List.mem_singleton.mp z]; exact ⟨o, ho, fun v q => by rw [hd] at q; cases q⟩
  keep := fun i h h' st k => let ⟨⟨⟨old, he⟩, hi⟩, hne⟩ := st; ⟨⟨⟨old, k e (by simp) _ he⟩, hi.at fun o q => k it (by simp) o q⟩, hne⟩
  item := by
    intro X hP hw hK hc i pins s σ H E I hf st hg
    subst hP hw hK
    obtain ⟨⟨⟨old, he⟩, hit⟩, hne⟩ := st
    obtain ⟨xs, x, hq, hx⟩ := hg
    obtain ⟨its, rv, p, hz⟩ := I.tuple hq
    obtain ⟨u, hu, ru⟩ := rv.get hx
    have p' : s.heap.IsTuple a its.toArray := p
    obtain ⟨oa, ha, hca, _⟩ := id p'
    obtain ⟨oi, hoi, hci, _⟩ := id hit
    have ae : e ≠ a := fun z => by
      rw [← z, he] at ha; cases ha; exact absurd (show Value.type "enumerate" = Value.type "tuple" from hca) (by decide)
    have ai : a ≠ it := fun z => by
      rw [z, hoi] at ha; cases ha; rw [hci] at hca; exact absurd hca (by decide)
    have lt : i < its.toArray.size := by
      have := rv.length
      have := (List.getElem?_eq_some_iff.mp hx).1
      rw [List.size_toArray]; omega
    refine wpAny_mono (enumD_item (elts := elts) (kk := kk) (tpos := tpos) (Y := fun z => xs[i]? = some z) I hf he hne (Heap.lt_size hoi) (Draws.tuple (show X.A.in1.handled = none from I.ok.hd hc) it a ai its.toArray) ⟨hit, p'⟩ lt (by simp [hne, ae]) ?_) (fun r s1 => ?_) fun _ _ q => q
    · intro v hv
      have e1 : v = u := by
        rw [List.getElem?_toArray, hu] at hv
        exact (Option.some.inj hv).symm
      rw [e1]; exact ⟨x, ru, hx⟩
    · rintro ⟨u', e1, h1⟩
      refine ⟨u', e1, wpAny_mono h1 (fun _ s2 => ?_) fun _ _ q => q⟩
      rintro ⟨y, H', I1, ry, ⟨T, z, e2, nT, eH, yz⟩, ⟨he', st'⟩, fr⟩
      exact ⟨y, H', I1, ry, ⟨T, z, e2, nT, eH, fun ys hy => by rw [I.tuple_inj hy hq]; exact yz⟩, ⟨⟨he', st'.1⟩, hne⟩, fr⟩
  done := by
    intro X hP hw hK hc i pins s σ H E I hf st hg
    subst hP hw hK
    obtain ⟨⟨⟨old, he⟩, hit⟩, hne⟩ := st
    obtain ⟨xs, hq, hl⟩ := hg
    obtain ⟨its, rv, p, hz⟩ := I.tuple hq
    have p' : s.heap.IsTuple a its.toArray := p
    obtain ⟨oa, ha, hca, _⟩ := id p'
    obtain ⟨oi, hoi, hci, _⟩ := id hit
    have ai : a ≠ it := fun z => by
      rw [z, hoi] at ha; cases ha; rw [hci] at hca; exact absurd hca (by decide)
    have e1 : its.toArray.size = i := by rw [List.size_toArray, ← rv.length, hl]
    exact enumD_done I hf he (Draws.tuple (show X.A.in1.handled = none from I.ok.hd hc) it a ai its.toArray) ⟨by rw [e1]; exact hit, p'⟩
  self := fun A i s Q E st h => let ⟨⟨⟨_, he⟩, _⟩, _⟩ := st; wpAny_pyIter_enum he h
/-- the text x, each sign in a new pair -/
def IteS (x : Str) : It where
  go := fun i _ => i < x.cps.size
  yld := fun i H v H' => ∃ T c, x.cps[i]? = some c ∧ v = .ref T ∧ H T = none ∧ H' = upd H T (.tup [.int (i : Nat), .str ⟨#[c]⟩])
  stop := fun i _ => x.cps.size = i
theorem turn_enS {P : Program} {w : World} {K : PySem.W.Frag} {elts : List Expr} {kk : Nat} {tpos : Pos} (x : Str) (t : Tok) (e it : Addr) :
    Turn P w K (.Tuple elts kk tpos) (IteS x) [e, it] e (fun i h => ((∃ old, IsEnum h e it ((i : Nat) : Int) old) ∧ h.IsStrIter it (strIterType x) x t i) ∧ e ≠ it) where
  mem := by simp
  obj := fun i h st b hb => by
    obtain ⟨⟨⟨old, he⟩, ⟨o, ho, hc, hd⟩⟩, _⟩ := st
    rcases List.mem_cons.mp hb with z | z
    · rw [z]; exact ⟨_, he, fun v q => nomatch q⟩
    · rw [List.mem_singleton.mp z]; exact ⟨o, ho, fun v q => by rw [hd] at q; cases q⟩
  keep := fun i h h' st k => let ⟨⟨⟨old, he⟩, ⟨o, ho, r⟩⟩, hne⟩ := st; ⟨⟨⟨old, k e (by simp) _ he⟩, ⟨o, k it (by simp) o ho, r⟩⟩, hne⟩
  item := by
    intro X hP hw hK hc i pins s σ H E I hf st hg
    subst hP hw hK
    obtain ⟨⟨⟨old, he⟩, hit⟩, hne⟩ := st
    obtain ⟨oi, hoi, hci, _⟩ := id hit
    refine wpAny_mono (enumD_item (elts := elts) (kk := kk) (tpos := tpos) (Y := fun z => ∃ c, x.cps[i]? = some c ∧ z = .str ⟨#[c]⟩) I hf he hne (Heap.lt_size hoi) (Draws.text (show X.A.in1.handled = none from I.ok.hd hc) it x t) hit hg (by simp [hne]) ?_) (fun r s1 => ?_) fun _ _ q => q
    · rintro v ⟨c, u, h1, h2⟩
      exact ⟨.str ⟨#[c]⟩, ⟨u, h2⟩, c, h1, rfl⟩
    · rintro ⟨u', e1, h1⟩
      refine ⟨u', e1, wpAny_mono h1 (fun _ s2 => ?_) fun _ _ q => q⟩
      rintro ⟨y, H', I1, ry, ⟨T, z, e2, nT, eH, c, hc1, hz⟩, ⟨he', st'⟩, fr⟩
      subst hz
      exact ⟨y, H', I1, ry, ⟨T, c, hc1, e2, nT, eH⟩, ⟨⟨he', st'⟩, hne⟩, fr⟩
  done := by
    intro X hP hw hK hc i pins s σ H E I hf st hg
    subst hP hw hK
    obtain ⟨⟨⟨old, he⟩, hit⟩, hne⟩ := st
    have e1 : x.cps.size = i := hg
    exact enumD_done I hf he (Draws.text (show X.A.in1.handled = none from I.ok.hd hc) it x t) (by rw [e1]; exact hit)
  self := fun A i s Q E st h => let ⟨⟨⟨_, he⟩, _⟩, _⟩ := st; wpAny_pyIter_enum he h
/-- enumerate(v): v a list, a tuple, a text -/
def iEnA (K : PySem.W.Frag) (ta : TA) : TI := fun σ H R => ta σ H fun vs H1 => (∃ a xs, vs = [.ref a] ∧ SqL K H1 a xs ∧ R (Ite K a) H1) ∨ (∃ a xs, vs = [.ref a] ∧ SqT K H1 a xs ∧ R (IteT K a) H1) ∨ ∃ x, vs = [.str x] ∧ R (IteS x) H1
theorem pi_enA {X : Cx} {e : Expr} {ta : TA} {p pos tpos : Pos} {elts : List Expr} {kk : Nat} (hg : Gl X "enumerate") (hm : X.mg "enumerate" = none) (ha : PA X [e] ta) (hs : starEach [e] X.env = [(false, eval e X.env)] := by rfl) :
    PI X (.Tuple elts kk tpos) (.Call (.Name "enumerate" p) [e] [] pos) (iEnA X.K ta) := by
  refine ⟨fun pins s σ H R I h => Call_ (ld_blt I hg hm boot_enumerate (PyProof.Rows.callWith_type1 (thn (ha.run pos pins s σ H _ I h) fun us s1 ⟨vs, H1, I1, r1, q1⟩ => ?_) hs rfl))⟩
  have two : ∀ b, b ∈ [s1.heap.objs.size + 1, s1.heap.objs.size] → FpOk X pins H1 b := fun b hb => by
    have hle : s1.heap.objs.size ≤ b := by
      rcases List.mem_cons.mp hb with z | z
      · rw [z]; exact Nat.le_add_right _ _
      · rw [List.mem_singleton.mp z]; exact Nat.le_refl _
    exact I1.fpOk hle (I1.hok.fresh hle)
  have one : ∀ v, vs = [v] → ∃ u, us = [u] ∧ L2.RelV v u := fun v e => by
    subst e
    cases r1 with
    | cons r rr =>
      cases rr
      exact ⟨_, rfl, r⟩
  rcases q1 with ⟨a, xs, ex, hq, q⟩ | ⟨a, xs, ex, hq, q⟩ | ⟨x, ex, q⟩
  · obtain ⟨u, rfl, r⟩ := one _ ex
    cases r
    obtain ⟨its, rv, p', hz⟩ := I1.list hq
    refine call_enumerate_list p'.isList fun h' he hit hsz hk => wpAny_pyIter_enum he ?_
    exact ⟨s1.heap.objs.size + 1, [s1.heap.objs.size + 1, s1.heap.objs.size], _, _, H1, rfl, I1.kept (t' := s1.toks) hk, turn_enum a (s1.heap.objs.size + 1) s1.heap.objs.size, ⟨⟨.none, he⟩, hit, Nat.succ_ne_self _⟩, two, q⟩
  · obtain ⟨u, rfl, r⟩ := one _ ex
    cases r
    obtain ⟨its, rv, p', hz⟩ := I1.tuple hq
    refine enum1_begins (begins_tuple a its.toArray) (show s1.heap.IsTuple a its.toArray from p') fun h' he hit hk => wpAny_pyIter_enum he ?_
    exact ⟨s1.heap.objs.size + 1, [s1.heap.objs.size + 1, s1.heap.objs.size], _, _, H1, rfl, I1.kept (t' := s1.toks) hk, turn_enT a (s1.heap.objs.size + 1) s1.heap.objs.size, ⟨⟨⟨.none, he⟩, ⟨_, hit, rfl, rfl⟩⟩, Nat.succ_ne_self _⟩, two, q⟩
  · obtain ⟨u, rfl, r⟩ := one _ ex
    obtain ⟨t, rfl⟩ := r
    refine enum1_begins (begins_text x t) trivial fun h' he hit hk => wpAny_pyIter_enum he ?_
    exact ⟨s1.heap.objs.size + 1, [s1.heap.objs.size + 1, s1.heap.objs.size], _, _, H1, rfl, I1.kept (t' := s1.toks) hk, turn_enS x t (s1.heap.objs.size + 1) s1.heap.objs.size, ⟨⟨⟨.none, he⟩, ⟨_, hit, rfl, rfl⟩⟩, Nat.succ_ne_self _⟩, two, q⟩

/-! ### the clean side -/
section
variable {X : Cx} {Γ : Gx} {W : WX} {k : Nat} {F : List Nat} {ρ : Nat → Addr} {N : Nat} {H : Hp} {σ : L2.St} {env : En} {hp : Hc} {D : Ends} {pos : Pos}
/-- an unchanging row, no further than its end -/
def snapE (xs : List CV) : ITc := ⟨xs.length + 1, fun i _ => if i ≤ xs.length then some xs[i]? else none⟩
def itEnA : List CV → Hc → Option ITc
  | [x], hp => match x with
    | .tup xs => some (enumI (snapE xs))
    | .wtp xs => some (enumI (snapE xs))
    | .str s => some (enumI (snapE (s.map fun c => .str [c])))
    | x => (itSeq x hp).map enumI
  | _, _ => none
theorem itok_enT {ρ₀ : Nat → Addr} {N₀ : Nat} {H₀ : Hp} {a : Addr} {xs : List CV} {vs : List V} (h : insU ρ₀ N₀ H₀ a (.tup vs) ∨ WrT Γ.K a vs) (q : Reps Γ ρ₀ N₀ H₀ N₀ xs vs) : ItOk Γ F ρ₀ N₀ H₀ (IteT Γ.K a) (enumI (snapE xs)).next := by
  intro i ρ hp H s r
  have h' : SqT Γ.K H a vs := h.elim (fun z => sqT_of (s.keepI _ _ rfl z)) sqT_wr
  have q' := q.mono s (Nat.le_refl _) s.le
  show match (match (if i ≤ xs.length then some xs[i]? else none) with | some (some v) => some (some (CV.tup [.int i, v])) | some none => some none | none => none) with | none => True | some none => _ | some (some v) => _
  by_cases hi : i ≤ xs.length
  · rw [if_pos hi]
    cases e : xs[i]? with
    | none =>
      refine ⟨vs, h', ?_⟩
      rw [← q'.len]
      exact Nat.le_antisymm (List.getElem?_eq_none_iff.mp e) hi
    | some v =>
      obtain ⟨w, e1, q1⟩ := q'.get e
      refine ⟨⟨vs, w, h', e1⟩, fun y H' yl => ?_⟩
      obtain ⟨T, z, rfl, hT, rfl, hz⟩ := yl
      have e2 := hz vs h'
      rw [e1] at e2
      cases e2
      exact ⟨step_new hT, r.new hT, rep_pair r hT repI q1⟩
  · rw [if_neg hi]; trivial
theorem itok_enS {ρ₀ : Nat → Addr} {N₀ : Nat} {H₀ : Hp} {s : List Nat} : ItOk Γ F ρ₀ N₀ H₀ (IteS (sOf s)) (enumI (snapE (s.map fun c => .str [c]))).next := by
  intro i ρ hp H st r
  show match (match (if i ≤ (s.map fun c => CV.str [c]).length then some (s.map fun c => CV.str [c])[i]? else none) with | some (some v) => some (some (CV.tup [.int i, v])) | some none => some none | none => none) with | none => True | some none => _ | some (some v) => _
  have sz : (sOf s).cps.size = s.length := by simp [sOf]
  by_cases hi : i ≤ (s.map fun c => CV.str [c]).length
  · rw [if_pos hi]
    rw [List.length_map] at hi
    rw [List.getElem?_map]
    cases e : s[i]? with
    | none =>
      show (sOf s).cps.size = i
      rw [sz]
      exact Nat.le_antisymm (List.getElem?_eq_none_iff.mp e) hi
    | some c =>
      have hl := (List.getElem?_eq_some_iff.mp e).1
      refine ⟨by show i < (sOf s).cps.size; rw [sz]; exact hl, fun y H' yl => ?_⟩
      obtain ⟨T, c', hc, rfl, hT, rfl⟩ := yl
      have e3 : (sOf s).cps[i]? = s[i]? := by simp [sOf]
      rw [e3, e] at hc
      cases hc
      exact ⟨step_new hT, r.new hT, rep_pair r hT repI (repS (s := [c]))⟩
  · rw [if_neg hi]; trivial
theorem sim_ienA [S : Sx X Γ W k] {a : Expr} {ms : List (M CV)} {p pos tpos : Pos} {elts : List Expr} {kk : Nat} (hg : Gl X "enumerate") (hm : X.mg "enumerate" = none) (ha : SimA X Γ W [a] (evA ms)) (hs : starEach [a] X.env = [(false, eval a X.env)] := by rfl) :
    SimI X Γ W (.Tuple elts kk tpos) (.Call (.Name "enumerate" p) [a] [] pos) (mIt (evA ms) itEnA) :=
  pi_imp (pi_enA hg hm ha hs) fun σ H Q q => by
    refine rd_mono (mIt_ok (re := reA Γ) q) fun xs H1 ⟨ρ1, F, hp1, as, it, r1, h1, e1, hJ⟩ => ?_
    rw [S.K]
    unfold itEnA at e1
    split at e1
    · obtain ⟨v, rfl, h2⟩ := Reps.one h1
      split at e1
      · cases e1
        unfold Rep at h2
        obtain ⟨b, vs, rfl, g1, g2⟩ := h2
        exact .inr (.inl ⟨b, vs, rfl, sqT_of g1, hJ _ (itok_enT (.inl g1) g2)⟩)
      · cases e1
        unfold Rep at h2
        obtain ⟨b, vs, rfl, g1, g2⟩ := h2
        exact .inr (.inl ⟨b, vs, rfl, sqT_wr g1, hJ _ (itok_enT (.inr g1) (g2.mono Step.refl (Nat.zero_le _) (Nat.zero_le _)))⟩)
      · cases e1
        unfold Rep at h2; subst h2
        exact .inr (.inr ⟨_, rfl, hJ _ itok_enS⟩)
      · rename_i x _ _ _ _ _
        cases q : itSeq x hp1 with
        | none => rw [q] at e1; cases e1
        | some it0 =>
          rw [q] at e1; cases e1
          obtain ⟨b, vs, rfl, g1, g2⟩ := itSeq_ok r1 h2 q
          exact .inl ⟨b, vs, rfl, g1, hJ _ (itok_enumL g2)⟩
    · cases e1
end
end Bl

/-! Own layer, part M: what the top has written; any row that is walked; what is not reached. -/
namespace Bl
open PySem PySem.Spec PyProof.Rows L2
section
variable {X : Cx} {Γ : Gx} {W : WX} {k : Nat} {F : List Nat} {ρ : Nat → Addr} {N : Nat} {H : Hp} {σ : L2.St} {env : En} {hp : Hc} {D : Ends} {pos : Pos}
/-! ### not reached -/
def eStuck : M CV := fun _ _ => .stuck
def sStuck : MS := fun _ _ => .stuck
theorem sim_estuck {e : Expr} : SimE X Γ W e eStuck := ⟨fun _ _ _ _ _ _ h => by obtain ⟨_, _, _, _, _, _, p⟩ := h; exact p.elim⟩
theorem sim_sstuck {s : Stmt} : SimS X Γ W s sStuck := ⟨fun _ _ _ _ _ _ h => by obtain ⟨_, _, _, _, _, _, p⟩ := h; exact p.elim⟩

/-! ### names of the module -/
def Gv (mg : Str → Option Value) (Γ : Gx) (x : Str) (cv : CV) : Prop := ∃ u v, mg x = some u ∧ L2.RelV v u ∧ ∀ ρ N H m, Rep Γ ρ N H m cv v
theorem sim_glob {x : Str} {cv : CV} (h : Gv X.mg Γ x cv) (hg : Gl X x := by rfl) (hd : (x == ("__debug__" : Str)) = false := by decide) : SimE X Γ W (.Name x pos) (eC cv) := by
  obtain ⟨u, v, h1, h2, h3⟩ := h
  exact sim_c (pe_glob hg h1 h2 hd) fun ρ N H => h3 ρ N H N
/-- a value of the written part -/
def wB (K : PySem.W.Frag) : Nat → CV → Value → Bool
  | _, .non, .none => true
  | _, .bl b, .bool c => b == c
  | _, .int i, .int j _ => decide (i = j)
  | _, .str s, .str y _ => decide (sOf s = y)
  | d + 1, .wtp xs, .ref a => match K.lookup a with
    | some ⟨.type c, _, .seq its _, _⟩ => decide (c = "tuple") && (decide (its.size ≤ 16777216) && (decide (its.toList.length = xs.length) && (xs.zip its.toList).all fun p => wB K d p.1 p.2))
    | _ => false
  | _, _, _ => false
def wV : CV → Value → V
  | .non, _ => .non
  | .bl b, _ => .bl b
  | .int i, _ => .int i
  | .str s, _ => .str (sOf s)
  | _, .ref a => .ref a
  | _, _ => .non
theorem wB_list {K : PySem.W.Frag} {Γ : Gx} {d : Nat} (ih : ∀ x u, wB K d x u = true → L2.RelV (wV x u) u ∧ ∀ ρ N H m, Rep Γ ρ N H m x (wV x u)) : ∀ (xs : List CV) (us : List Value), us.length = xs.length → (xs.zip us).all (fun p => wB K d p.1 p.2) = true →
    Vals ((xs.zip us).map fun p => wV p.1 p.2) us ∧ ∀ ρ N H m, Reps Γ ρ N H m xs ((xs.zip us).map fun p => wV p.1 p.2)
  | [], [], _, _ => ⟨.nil, fun _ _ _ _ => by unfold Reps; rfl⟩
  | [], _ :: _, h, _ => by cases h
  | _ :: _, [], h, _ => by cases h
  | x :: xs, u :: us, hl, h => by
    rw [List.zip_cons_cons, List.all_cons, Bool.and_eq_true] at h
    obtain ⟨a1, a2⟩ := ih x u h.1
    obtain ⟨b1, b2⟩ := wB_list ih xs us (by simpa using hl) h.2
    refine ⟨.cons a1 b1, fun ρ N H m => ?_⟩
    show Reps Γ ρ N H m (x :: xs) (wV x u :: _)
    unfold Reps
    exact ⟨_, _, rfl, a2 ρ N H m, b2 ρ N H m⟩
theorem wB_ok {K : PySem.W.Frag} {Γ : Gx} (hK : Γ.K = K) : ∀ (d : Nat) (x : CV) (u : Value), wB K d x u = true → L2.RelV (wV x u) u ∧ ∀ ρ N H m, Rep Γ ρ N H m x (wV x u) := by
  intro d
  induction d with
  | zero =>
    intro x u h
    cases x <;> cases u <;> first | (simp only [wB, Bool.false_eq_true] at h; done) | skip
    · exact ⟨rfl, fun _ _ _ _ => repN⟩
    · rename_i b c
      have e : b = c := by simpa [wB] using h
      subst e
      exact ⟨rfl, fun _ _ _ _ => repB⟩
    · rename_i i j t
      have e : i = j := by simpa [wB] using h
      subst e
      exact ⟨⟨t, rfl⟩, fun _ _ _ _ => repI⟩
    · rename_i s y t
      have e : sOf s = y := by simpa [wB] using h
      subst e
      exact ⟨⟨t, rfl⟩, fun _ _ _ _ => repS⟩
  | succ d ih =>
    intro x u h
    cases x <;> cases u <;> first | (simp only [wB, Bool.false_eq_true] at h; done) | skip
    · exact ⟨rfl, fun _ _ _ _ => repN⟩
    · rename_i b c
      have e : b = c := by simpa [wB] using h
      subst e
      exact ⟨rfl, fun _ _ _ _ => repB⟩
    · rename_i i j t
      have e : i = j := by simpa [wB] using h
      subst e
      exact ⟨⟨t, rfl⟩, fun _ _ _ _ => repI⟩
    · rename_i s y t
      have e : sOf s = y := by simpa [wB] using h
      subst e
      exact ⟨⟨t, rfl⟩, fun _ _ _ _ => repS⟩
    · rename_i xs a
      have h' : (match K.lookup a with
        | some ⟨.type c, _, .seq its _, _⟩ => decide (c = "tuple") && (decide (its.size ≤ 16777216) && (decide (its.toList.length = xs.length) && (xs.zip its.toList).all fun p => wB K d p.1 p.2))
        | _ => false) = true := by simpa [wB] using h
      split at h'
      · rename_i c od its n sl q
        simp only [Bool.and_eq_true, decide_eq_true_eq] at h'
        obtain ⟨h1, h2, h3, h4⟩ := h'
        obtain ⟨r1, r2⟩ := wB_list (Γ := Γ) ih xs its.toList h3 h4
        refine ⟨rfl, fun ρ N H m => ?_⟩
        show Rep Γ ρ N H m (.wtp xs) (.ref a)
        unfold Rep
        refine ⟨a, _, rfl, ?_, r2 ρ N H 0⟩
        rw [hK]
        exact ⟨_, its, n, q, congrArg Value.type h1, rfl, by rw [sizeLine_eq]; exact h2, r1⟩
      · cases h'
def gvB (K : PySem.W.Frag) (x : Str) (cv : CV) : Bool := match PySem.W.nsIn K mainGlobals x with
  | some (some u) => wB K 8 cv u
  | _ => false
theorem gvB_ok {K : PySem.W.Frag} {h : Heap} {mg : Str → Option Value} {x : Str} {cv : CV} (hK : Γ.K = K) (kin : K.In h) (ns : h.Ns mainGlobals mg) (q : gvB K x cv = true) : Gv mg Γ x cv := by
  unfold gvB at q
  split at q
  · rename_i u e
    obtain ⟨h1, h2⟩ := wB_ok hK 8 cv u q
    exact ⟨u, _, PySem.W.mg_of kin ns e, h1, h2⟩
  · cases q

/-! ### defs by the head's data -/
theorem fn_okD {P : Program} {w : World} {K : PySem.W.Frag} {mg : Str → Option Value} {base : Heap} {x qual : Str} {params : Arguments} {stm : List Stmt} {scope : Scope} {dvs : List V} {kws : List (Str × V)} {f : Addr} {fd : FuncData} {NN ps : List Str} {k n : Nat} {body : MS}
    (F : FunD K x qual params stm scope dvs kws f fd) (S : FnScope NN ps scope) (hK : Γ.K = K) (hn : ps.length = n)
    (hb : ∀ (cdv : Value) (A : Around) (outer : List Env) (s : Shared) (H : Hp) (E : XK), Sx (cxOf (L2.CX P w) P w K mg base NN qual scope f cdv A outer s H E) Γ (WK E) k →
      SimSs (cxOf (L2.CX P w) P w K mg base NN qual scope f cdv A outer s H E) Γ (WK E) stm body) :
    FnOk P w K mg base (L2.CX P w) (k + 1) f fd ps (spF Γ n (fnM NN.length body)) := by
  refine F.ok S (fun vs H Q E h => h.1.trans hn.symm) (fun cdv A outer s H vs Q E hr h => ⟨_, hb cdv A outer s H E ⟨hK.symm, rfl, S.nd, hr, takes_of rfl rfl rfl rfl⟩, ?_⟩)
  obtain ⟨hl, ρ, F', hp, args, r, e, p⟩ := h
  refine ⟨ρ, F', hp, _, r, start_rep e, ?_⟩
  unfold fnM at p
  revert p
  generalize body (args.map some ++ List.replicate (NN.length - args.length) none) hp = z
  intro p
  cases z with
  | stuck => exact p
  | ok fl hp' =>
    cases fl with
    | nx env => exact fun ρ' H' σ' s r' _ => p ρ' H' _ s r' repN
    | rt v => exact p
    | bk env => exact p.elim
    | ct env => exact p.elim
    | ex c fs env => exact fun ρ' H' σ' d s r' q _ => p ρ' H' d s r' q
/-- what is known of a module's def -/
structure DefK (K : PySem.W.Frag) (mg : Str → Option Value) (x : Str) (params : Arguments) (stm : List Stmt) (scope : Scope) (ps : List Str) : Prop where
  ex : ∃ f fd, FunD K x x params stm scope [] [] f fd ∧ mg x = some (.ref f) ∧ Binds K fd ps [] ∧ ∀ (s : Shared) (us : List Value), us.length = ps.length → BindsTo s fd ⟨us, []⟩ (ps.zip us)
theorem DefK.kn {P : Program} {w : World} {K : PySem.W.Frag} {mg : Str → Option Value} {base : Heap} {x : Str} {params : Arguments} {stm : List Stmt} {scope : Scope} {NN ps : List Str} {k n : Nat} {body : MS}
    (d : DefK K mg x params stm scope ps) (S : FnScope NN ps scope) (hK : Γ.K = K) (hn : ps.length = n)
    (hb : ∀ (f : Addr) (cdv : Value) (A : Around) (outer : List Env) (s : Shared) (H : Hp) (E : XK), Sx (cxOf (L2.CX P w) P w K mg base NN x scope f cdv A outer s H E) Γ (WK E) k →
      SimSs (cxOf (L2.CX P w) P w K mg base NN x scope f cdv A outer s H E) Γ (WK E) stm body) : Kn P w K mg base Γ (k + 1) x n (fnM NN.length body) := by
  obtain ⟨f, fd, h1, h2, h3, _⟩ := d.ex
  exact ⟨f, fd, ps, fn_okD h1 S hK hn (hb f), h2, h1.kp, h3⟩
theorem DefK.stuck {P : Program} {w : World} {K : PySem.W.Frag} {mg : Str → Option Value} {base : Heap} {x : Str} {params : Arguments} {stm : List Stmt} {scope : Scope} {ps : List Str} {n : Nat} (d : DefK K mg x params stm scope ps) : Kn P w K mg base Γ 0 x n (fun _ _ => .stuck) := by
  obtain ⟨f, fd, h1, h2, h3, _⟩ := d.ex
  exact kn_stuck h2 h1.kp h3

theorem defK_of {K : PySem.W.Frag} {h : Heap} {mg : Str → Option Value} (kin : K.In h) (ns : h.Ns mainGlobals mg) {d : He.DefD} {ps : List Str} (c : ∃ fd, FunD K d.name d.qual d.params d.body d.scope (d.dvs K) (d.kws K) (He.fAd K d.at_) fd)
    (f : (He.Fa.glo d.name).ok K = true) (e3 : d.at_ = (d.name, none)) (e4 : d.qual = d.name) (e5 : d.dfl = []) (e6 : d.kwd = [])
    (hb : ∀ (kV doc pm : Value) (an : Option Addr) (cdv ct : Value) (us : List Value), us.length = ps.length → bindArgs (PySem.W.fnOf d.name d.name d.params d.body d.scope .none kV doc pm an cdv ct) ⟨us, []⟩ = pure (ps.zip us)) : DefK K mg d.name d.params d.body d.scope ps := by
  obtain ⟨fd, F⟩ := c
  rw [show d.dvs K = [] by unfold He.DefD.dvs; rw [e5]; rfl, show d.kws K = [] by unfold He.DefD.kws; rw [e6]; rfl, e3, e4] at F
  exact ⟨He.ga K d.name, fd, F, He.glo_ok kin ns f, F.bindsN hb, fun s us hl => F.bindsA hb s us hl⟩
abbrev vIn := vInS
theorem oc_in [S : Sx X Γ W k] : OpC X Γ W (compareOp .In) (vIn false) := oc_inS
theorem oc_nin [S : Sx X Γ W k] : OpC X Γ W (compareOp .NotIn) (vIn true) := oc_ninS

/-! ### any row that is walked: a list, a tuple, a text -/
def iAny (K : PySem.W.Frag) (te : TE) : TI := fun σ H R => te σ H fun x H1 => (∃ a xs, x = .ref a ∧ SqL K H1 a xs ∧ R (Itl K a) H1) ∨ (∃ a xs, x = .ref a ∧ SqT K H1 a xs ∧ R (Itt K a) H1) ∨ ∃ s, x = .str s ∧ R (Its s) H1
theorem pi_any {tg e : Expr} {te : TE} (he : PE X e te) : PI X tg e (iAny X.K te) := by
  refine ⟨fun pins s σ H R I h => ?_⟩
  refine thn (he.run pins s σ H _ I h) fun v s1 ⟨x, H1, I1, r1, q1⟩ => ?_
  have fin : ∀ b ∈ [s1.heap.objs.size], FpOk X pins H1 b := fun b hb => by
    rw [List.mem_singleton.mp hb]
    exact I1.fpOk (Nat.le_refl _) (I1.hok.fresh (Nat.le_refl _))
  rcases q1 with ⟨a, xs, ex, hq, q⟩ | ⟨a, xs, ex, hq, q⟩ | ⟨z, ex, q⟩
  · subst ex
    cases r1
    obtain ⟨its, rv, p, hz⟩ := I1.list hq
    exact wpAny_pyIter_list p.isList ⟨s1.heap.objs.size, [s1.heap.objs.size], _, _, H1, rfl, I1.kept (t' := s1.toks) fun b o e => Heap.get?_push_of_some _ e, turn_list a _, ⟨_, Heap.get?_push_size _ rfl, rfl, rfl⟩, fin, q⟩
  · subst ex
    cases r1
    obtain ⟨its, rv, p, hz⟩ := I1.tuple hq
    exact wpAny_pyIter_tuple (show s1.heap.IsTuple a its.toArray from p) ⟨s1.heap.objs.size, [s1.heap.objs.size], _, _, H1, rfl, I1.kept (t' := s1.toks) fun b o e => Heap.get?_push_of_some _ e, turn_tuple a _, ⟨_, Heap.get?_push_size _ rfl, rfl, rfl⟩, fin, q⟩
  · subst ex
    obtain ⟨t, rfl⟩ := r1
    refine wpAny_pyIter_strU ⟨s1.heap.objs.size, [s1.heap.objs.size], _, _, H1, rfl, I1.kept (t' := s1.toks) fun b o e => Heap.get?_push_of_some _ e, turn_str _ z t (strIterType z) ?_, ⟨_, Heap.get?_push_size _ rfl, rfl, rfl⟩, fin, q⟩
    unfold strIterType
    cases z.cps.all (· < 128)
    · exact .inr rfl
    · exact .inl rfl
def itAny (v : CV) (hp : Hc) : Option ITc := match v with
  | .tup xs => some (snap xs)
  | .wtp xs => some (snap xs)
  | .str s => some (snap (s.map fun c => .str [c]))
  | v => itSeq v hp
theorem itok_str {ρ₀ : Nat → Addr} {N₀ : Nat} {H₀ : Hp} {s : List Nat} : ItOk Γ F ρ₀ N₀ H₀ (Its (sOf s)) (snap (s.map fun c => .str [c])).next := by
  intro i ρ hp H st r
  show match some (s.map fun c => CV.str [c])[i]? with | none => True | some none => _ | some (some v) => _
  rw [List.getElem?_map]
  have sz : (sOf s).cps.size = s.length := by simp [sOf]
  cases e : s[i]? with
  | none =>
    show (sOf s).cps.size ≤ i
    rw [sz]; exact List.getElem?_eq_none_iff.mp e
  | some c =>
    refine ⟨by show i < (sOf s).cps.size; rw [sz]; exact (List.getElem?_eq_some_iff.mp e).1, fun y H' yl => ?_⟩
    obtain ⟨rfl, c', hc, rfl⟩ := yl
    have e3 : (sOf s).cps[i]? = s[i]? := by simp [sOf]
    rw [e3, e] at hc
    cases hc
    exact ⟨Step.refl, r, repS (s := [c])⟩
theorem sim_iany [S : Sx X Γ W k] {tg e : Expr} {m : M CV} (h : SimE X Γ W e m) : SimI X Γ W tg e (mIt m itAny) := pi_imp (pi_any h) fun σ H Q q => by
  refine rd_mono (mIt_ok (re := reV Γ) q) fun x H1 ⟨ρ1, F, hp1, a, it, r1, h1, e1, hJ⟩ => ?_
  rw [S.K]
  have h1' : Rep Γ ρ1 hp1.N H1 hp1.N a x := h1
  unfold itAny at e1
  split at e1
  · cases e1
    unfold Rep at h1'
    obtain ⟨p, vs, rfl, q1, q2⟩ := h1'
    exact .inr (.inl ⟨p, vs, rfl, sqT_of q1, hJ _ (itok_tup (Nat.le_refl _) (.inl q1) q2)⟩)
  · cases e1
    unfold Rep at h1'
    obtain ⟨p, vs, rfl, q1, q2⟩ := h1'
    exact .inr (.inl ⟨p, vs, rfl, sqT_wr q1, hJ _ (itok_tup (Nat.le_refl _) (.inr q1) (q2.mono Step.refl (Nat.zero_le _) (Nat.zero_le _)))⟩)
  · cases e1
    unfold Rep at h1'; subst h1'
    exact .inr (.inr ⟨_, rfl, hJ _ itok_str⟩)
  · obtain ⟨p, vs, rfl, q1, q2⟩ := itSeq_ok r1 h1' e1
    exact .inl ⟨p, vs, rfl, q1, hJ _ q2⟩
end
end Bl

/-! Own layer, part N: a call over a clean heap of its own. -/
namespace Bl
open PySem PySem.Spec PyProof.Rows L2
section
variable {X : Cx} {Γ : Gx} {W : WX} {k : Nat} {F : List Nat} {ρ ρ' : Nat → Addr} {N N' : Nat} {H H' : Hp} {σ : L2.St} {env : En} {hp : Hc} {D : Ends} {pos : Pos}
mutual
/-- no address that might be one of the clean heap's: scalars, the written part, tuples of these -/
def offV : CV → Bool
  | .tup xs => offL xs
  | .wtp xs => offL xs
  | .lst _ => false
  | .dct _ _ => false
  | .ins _ _ => false
  | .ref _ => false
  | _ => true
def offL : List CV → Bool
  | [] => true
  | x :: r => offV x && offL r
end
theorem notTup (r : SRh Γ ρ F hp H) {a : Addr} {vs : List V} (h : H a = some (.tup vs)) : ¬ Own ρ hp.N a := by
  rintro ⟨i, hi, rfl⟩
  obtain ⟨o, _, q⟩ := r.at hi
  cases o with
  | lst xs => obtain ⟨_, e, _⟩ := q; rw [h] at e; cases e
  | dic t kvs => cases t <;> (obtain ⟨_, e, _⟩ := q; rw [h] at e; cases e)
  | ins c fs => obtain ⟨_, _, e, _⟩ := q; rw [h] at e; cases e
mutual
theorem off_rep (r : SRh Γ ρ F hp H) {m m' : Nat} : ∀ (x : CV) {v : V}, offV x = true → Rep Γ ρ' N' H m x v → Rep Γ ρ hp.N H m' x v
  | .non, v, _, h => by unfold Rep at h ⊢; exact h
  | .bl b, v, _, h => by unfold Rep at h ⊢; exact h
  | .int i, v, _, h => by unfold Rep at h ⊢; exact h
  | .str s, v, _, h => by unfold Rep at h ⊢; exact h
  | .wdc i, v, _, h => by unfold Rep at h ⊢; exact h
  | .wtp xs, v, o, h => by
    unfold Rep at h ⊢
    obtain ⟨a, vs, e, q, z⟩ := h
    unfold offV at o
    exact ⟨a, vs, e, q, off_reps r xs o z⟩
  | .tup xs, v, o, h => by
    unfold Rep at h ⊢
    unfold offV at o
    obtain ⟨a, vs, e, q, z⟩ := h
    exact ⟨a, vs, e, ⟨notTup r q.2, q.2⟩, off_reps r xs o z⟩
  | .lst _, v, o, h => by cases o
  | .dct _ _, v, o, h => by cases o
  | .ins _ _, v, o, h => by cases o
  | .ref _, v, o, h => by cases o
theorem off_reps (r : SRh Γ ρ F hp H) {m m' : Nat} : ∀ (xs : List CV) {vs : List V}, offL xs = true → Reps Γ ρ' N' H m xs vs → Reps Γ ρ hp.N H m' xs vs
  | [], vs, _, h => by unfold Reps at h ⊢; exact h
  | x :: xs, vs, o, h => by
    unfold Reps at h ⊢
    unfold offL at o
    rw [Bool.and_eq_true] at o
    obtain ⟨v, s, e, h1, h2⟩ := h
    exact ⟨v, s, e, off_rep r x o.1 h1, off_reps r xs o.2 h2⟩
end
/-- over an empty clean heap; the answer is frozen -/
def loc (f : Fn) : Fn := fun args hp => if offL args = true then (match f args ⟨0, []⟩ with
  | .ok v hp' => match frzV hp'.os 0 v with
    | some v' => if offV v' = true then .ok v' hp else .stuck
    | none => .stuck
  | .exc c fs _ => if fs.isEmpty = true then .exc c fs hp else .stuck
  | .stuck => .stuck) else .stuck
theorem srh_nil (t : LamX.Tabs Γ.T H) : SRh Γ ρ [] ⟨0, []⟩ H :=
  ⟨fun i j h => absurd h (Nat.not_lt_zero _), fun i o e => (by simp at e), Nat.le_refl _, fun f h => (by cases h), t⟩
/-- the caller's side stands behind such a call -/
theorem loc_step (s : Step ρ 0 H ρ' N' H') : Step ρ hp.N H ρ hp.N H' :=
  ⟨Nat.le_refl _, fun _ _ => rfl, fun a u h => ⟨h.1, (s.keep a u ⟨fun ⟨i, hi, _⟩ => absurd hi (Nat.not_lt_zero i), h.2⟩).2⟩, fun a u _ h => ⟨h.1, (s.keepI a u rfl ⟨fun ⟨i, hi, _⟩ => absurd hi (Nat.not_lt_zero i), h.2⟩).2⟩⟩
theorem loc_same (s : Step ρ 0 H ρ' N' H') {a : Addr} {u : HO} (h : H a = some u) : H' a = some u := (s.keepI a u rfl ⟨fun ⟨i, hi, _⟩ => absurd hi (Nat.not_lt_zero i), h⟩).2
theorem loc_srh (r : SRh Γ ρ F hp H) (s : Step ρ 0 H ρ' N' H') (t : LamX.Tabs Γ.T H') : SRh Γ ρ F hp H' := by
  refine r.off (loc_step s) (fun i hi => ?_) t
  obtain ⟨u, hu⟩ := r.there ⟨i, hi, rfl⟩
  rw [loc_same s hu, hu]
theorem loc_post {f : Fn} {args : List CV} {Q : VK} (r : SRh Γ ρ F hp H) (p : Post Γ F W σ ρ hp.N H (reV Γ) (loc f args hp) Q) : offL args = true ∧ Post Γ [] W σ ρ 0 H (reV Γ) (f args ⟨0, []⟩) Q := by
  unfold loc at p
  split at p
  · rename_i ha
    refine ⟨ha, ?_⟩
    revert p
    generalize f args ⟨0, []⟩ = z
    intro p
    cases z with
    | stuck => exact p
    | exc c fs hp' =>
      intro ρ' H' d s r' q
      have p' : Post Γ F W σ ρ hp.N H (reV Γ) (if fs.isEmpty = true then R.exc c fs hp else .stuck) Q := p
      split at p'
      · rename_i he
        refine p' ρ H' d (loc_step s) (loc_srh r s r'.tab) ?_
        rcases q with q | ⟨a, ds, e1, e2, q⟩
        · exact .inl q
        · cases fs with
          | nil => exact .inr ⟨a, ds, e1, e2, by unfold RepF at q ⊢; exact q⟩
          | cons _ _ => cases he
      · exact p'.elim
    | ok v hp' =>
      intro ρ' H' x s r' q
      have p' : Post Γ F W σ ρ hp.N H (reV Γ) (match frzV hp'.os 0 v with | some v' => if offV v' = true then R.ok v' hp else .stuck | none => .stuck) Q := p
      split at p'
      · rename_i v' e
        split at p'
        · rename_i ho
          have rr := loc_srh r s r'.tab
          exact p' ρ H' x (loc_step s) rr (off_rep rr v' ho (frzV_ok r' (Nat.zero_le _) e q))
        · exact p'.elim
      · exact p'.elim
  · exact p.elim
theorem Kn.loc {P : Program} {w : World} {K : PySem.W.Frag} {mg : Str → Option Value} {base : Heap} {x : Str} {n : Nat} {f : Fn} (h : Kn P w K mg base Γ k x n f) : Kn P w K mg base Γ k x n (Bl.loc f) := by
  obtain ⟨a, fd, ps, h1, h2, h3, h4⟩ := h
  refine ⟨a, fd, ps, h1.imp fun vs H Q E q => ?_, h2, h3, h4⟩
  obtain ⟨hl, ρ, F, hp, args, r, e, p⟩ := q
  obtain ⟨ha, p'⟩ := loc_post r p
  have r0 : SRh Γ ρ [] ⟨0, []⟩ H := srh_nil r.tab
  exact ⟨hl, ρ, [], ⟨0, []⟩, args, r0, off_reps r0 args ha e, p'⟩
end
end Bl

/-! Own layer, part O: the laws' dice, the laws' frame (plain Lean: no program in sight). -/
namespace Bl
open PySem PySem.Spec PyProof.Rows L2

/-! ### mirrors of the laws' own helpers, as the generator prints them -/
def mDice : MS := sSeq (sIf (tV (eChain vLt vLt (e2 vSub (eC (.int 0)) (eC (.int 10))) (eVar 0) (eC (.int 10)))) (sRet (eLst [eBi bAbs [eVar 0], eC (.int 0), eC (.int 2)])) (sNil)) (sRet (eLst [eVar 0, e2 vAdd (eC (.int 1)) (e2 vMod (eBi bInt [eVar 0]) (eC (.int 1009))), eBi bInt [e2 vGe (eVar 0) (e2 vPow (eC (.int 10)) (eC (.int 18)))]]))
def mRoll : MS := sSeq (sIf (tOr2 (tV (e2 (vEq false) (e2 vIx (eVar 0) (eC (.int 2))) (eC (.int 2)))) (tAnd2 (tV (e2 (vEq false) (e2 vIx (eVar 0) (eC (.int 2))) (eC (.int 1)))) (tV (e2 vGt (e2 vIx (eVar 0) (eC (.int 0))) (eC (.int 0)))))) (sSeq (sAsg (gNm 2) (e2 vMod (eBi bInt [e2 vIx (eVar 0) (eC (.int 0))]) (eVar 1))) (sSeq (sSetL (e2 vDiv (e2 vIx (eVar 0) (eC (.int 0))) (eVar 1)) (eVar 0) (eC (.int 0))) (sRet (eVar 2)))) (sNil)) (sSeq (sSetL (eC (.int 0)) (eVar 0) (eC (.int 2))) (sSeq (sSetL (e2 vMod (eBi bInt [e2 vAdd (e2 vAdd (e2 vMul (e2 vIx (eVar 0) (eC (.int 0))) (eC (.int 48271))) (e2 vMul (e2 vIx (eVar 0) (eC (.int 1))) (eC (.int 69621)))) (eC (.int 11))]) (eC (.int 2147483647))) (eVar 0) (eC (.int 0))) (sSeq (sSetL (e2 vAdd (e2 vIx (eVar 0) (eC (.int 1))) (eC (.int 1))) (eVar 0) (eC (.int 1))) (sRet (e2 vMod (eBi bInt [e2 vAdd (e2 vDiv (e2 vIx (eVar 0) (eC (.int 0))) (eC (.int 7))) (e2 vIx (eVar 0) (eC (.int 0)))]) (eVar 1))))))
def mRounds (f__law_dice : Fn) : MS := sSeq (sAsg (gNm 2) (eSl (eVar 0) none (some (eVar 1)))) (sSeq (sIf (tV (e2 (vEq false) (eVar 2) (eLst []))) (sAsg (gNm 2) (eLst [eC (.int 0)])) (sNil)) (sRet (eComp (mIt (eVar 2) itAny) (gNm 3) (tTrue) (eBi f__law_dice [eVar 3]) [3])))

/-! ### dice -/
def diceL (x : Int) : Int × Int × Int := if -10 < x ∧ x < 10 then (if x < 0 then -x else x, 0, 2) else (x, 1 + x % 1009, if 10 ^ 18 ≤ x then 1 else 0)
def gDice : Fn := fun args hp => match args with
  | [.int x] => .ok (.ref hp.N) (hp.push (.lst [.int (diceL x).1, .int (diceL x).2.1, .int (diceL x).2.2]))
  | _ => .stuck
theorem dice_is (args : List CV) (hp : Hc) : gDice args hp = .stuck ∨ fnM 1 mDice args hp = gDice args hp := by
  match args with
  | [.int x] =>
    refine .inr ?_
    by_cases h1 : -10 < x
    · by_cases h2 : x < 10
      · have e : diceL x = (if x < 0 then -x else x, 0, 2) := if_pos ⟨h1, h2⟩
        unfold gDice
        simp only [e]
        simp [fnM, mDice, sSeq, sIf, RS.of, tV, asB, eChain, e2, vSub, vLt, vI, eC, eVar, R.bind, h1, h2, sRet, eLst, evA, eBi, bAbs, newL, okLen]
      · have e : diceL x = (x, 1 + x % 1009, if 10 ^ 18 ≤ x then 1 else 0) := if_neg fun h => h2 h.2
        unfold gDice
        simp only [e]
        simp [fnM, mDice, sSeq, sIf, RS.of, tV, asB, eChain, e2, vSub, vLt, vI, eC, eVar, R.bind, h1, h2, sNil, sRet, eLst, evA, eBi, bInt, vMod, vIC, cMod, vAdd, vGe, vPow, cPow, newL, okLen]
    · have e : diceL x = (x, 1 + x % 1009, if 10 ^ 18 ≤ x then 1 else 0) := if_neg fun h => h1 h.1
      unfold gDice
      simp only [e]
      simp [fnM, mDice, sSeq, sIf, RS.of, tV, asB, eChain, e2, vSub, vLt, vI, eC, eVar, R.bind, h1, sNil, sRet, eLst, evA, eBi, bInt, vMod, vIC, cMod, vAdd, vGe, vPow, cPow, newL, okLen]
  | [] => exact .inl rfl
  | [.non] => exact .inl rfl
  | [.bl _] => exact .inl rfl
  | [.str _] => exact .inl rfl
  | [.tup _] => exact .inl rfl
  | [.wtp _] => exact .inl rfl
  | [.wdc _] => exact .inl rfl
  | [.lst _] => exact .inl rfl
  | [.dct _ _] => exact .inl rfl
  | [.ins _ _] => exact .inl rfl
  | [.ref _] => exact .inl rfl
  | x :: _ :: _ => cases x <;> exact .inl rfl

/-- what a roll answers, what the dice are behind it -/
def rollV (a b c m : Int) : Int := if c = 2 ∨ (c = 1 ∧ 0 < a) then a % m else ((a * 48271 + b * 69621 + 11) % 2147483647 / 7 + (a * 48271 + b * 69621 + 11) % 2147483647) % m
def rollS (a b c m : Int) : Int × Int × Int := if c = 2 ∨ (c = 1 ∧ 0 < a) then (a / m, b, c) else ((a * 48271 + b * 69621 + 11) % 2147483647, b + 1, 0)
theorem rollV_nn {a b c m : Int} (h : 0 < m) : 0 ≤ rollV a b c m := by
  unfold rollV
  split <;> exact Int.emod_nonneg _ (by omega)
theorem rollV_lt {a b c m : Int} (h : 0 < m) : rollV a b c m < m := by
  unfold rollV
  split <;> exact Int.emod_lt_of_pos _ h
def ix3 (d : Nat) (os : List CO) : Option (Int × Int × Int) := match os[d]? with
  | some (.lst [.int a, .int b, .int c]) => some (a, b, c)
  | _ => none
def gRoll : Fn := fun args hp => match args with
  | [.ref d, .int m] => match ix3 d hp.os with
    | some (a, b, c) => if (decide (0 < m) && decide (m < 1073741824)) = true then .ok (.int (rollV a b c m)) (hp.set d (.lst [.int (rollS a b c m).1, .int (rollS a b c m).2.1, .int (rollS a b c m).2.2])) else .stuck
    | none => .stuck
  | _ => .stuck
theorem roll_eq {d : Nat} {m a b c : Int} {hp : Hc} (e : hp.os[d]? = some (.lst [.int a, .int b, .int c])) (h1 : 0 < m) (h2 : m < 1073741824) :
    fnM 3 mRoll [.ref d, .int m] hp = .ok (.int (rollV a b c m)) (hp.set d (.lst [.int (rollS a b c m).1, .int (rollS a b c m).2.1, .int (rollS a b c m).2.2])) := by
  have hd : d < hp.os.length := (List.getElem?_eq_some_iff.mp e).1
  have eg : hp.os[d] = .lst [.int a, .int b, .int c] := (List.getElem?_eq_some_iff.mp e).2
  have i0 : ∀ x y z : CV, atI [x, y, z] 0 = some x := fun _ _ _ => rfl
  have i1 : ∀ x y z : CV, atI [x, y, z] 1 = some y := fun _ _ _ => rfl
  have i2 : ∀ x y z : CV, atI [x, y, z] 2 = some z := fun _ _ _ => rfl
  have n0 : ixN 3 0 = some 0 := rfl
  have n1 : ixN 3 1 = some 1 := rfl
  have n2 : ixN 3 2 = some 2 := rfl
  by_cases c2 : c = 2
  · subst c2
    have v1 : rollV a b 2 m = a % m := if_pos (.inl rfl)
    have v2 : rollS a b 2 m = (a / m, b, 2) := if_pos (.inl rfl)
    simp only [v1, v2]
    simp [fnM, mRoll, sSeq, sIf, RS.of, tOr2, tV, e2, eVar, eC, R.bind, vIx, seqItems, e, i0, i1, i2, vEq, eqC, eqS, asB, sAsg, eBi, evA, bInt, vMod, vIC, cMod, h1, gNm, sSetL, vDiv, cDiv, h2, n0, n1, n2, limL, limV, sRet]
  · by_cases c1 : c = 1 ∧ 0 < a
    · obtain ⟨rfl, ha⟩ := c1
      have v1 : rollV a b 1 m = a % m := if_pos (.inr ⟨rfl, ha⟩)
      have v2 : rollS a b 1 m = (a / m, b, 1) := if_pos (.inr ⟨rfl, ha⟩)
      simp only [v1, v2]
      simp [fnM, mRoll, sSeq, sIf, RS.of, tOr2, tAnd2, tV, e2, eVar, eC, R.bind, vIx, seqItems, e, i0, i1, i2, vEq, eqC, eqS, asB, vGt, vI, ha, sAsg, eBi, evA, bInt, vMod, vIC, cMod, h1, gNm, sSetL, vDiv, cDiv, h2, n0, n1, n2, limL, limV, sRet]
    · have nc : ¬ (c = 2 ∨ (c = 1 ∧ 0 < a)) := fun h => h.elim c2 c1
      have v1 : rollV a b c m = ((a * 48271 + b * 69621 + 11) % 2147483647 / 7 + (a * 48271 + b * 69621 + 11) % 2147483647) % m := if_neg nc
      have v2 : rollS a b c m = ((a * 48271 + b * 69621 + 11) % 2147483647, b + 1, 0) := if_neg nc
      simp only [v1, v2]
      have t : ∀ env hp', env[0]? = some (some (CV.ref d)) → hp'.os[d]? = some (.lst [.int a, .int b, .int c]) → tOr2 (tV (e2 (vEq false) (e2 vIx (eVar 0) (eC (.int 2))) (eC (.int 2)))) (tAnd2 (tV (e2 (vEq false) (e2 vIx (eVar 0) (eC (.int 2))) (eC (.int 1)))) (tV (e2 vGt (e2 vIx (eVar 0) (eC (.int 0))) (eC (.int 0))))) env hp' = .ok false hp' := by
        intro env hp' e1 e3
        by_cases z1 : c = 1
        · have ha : ¬ 0 < a := fun h => c1 ⟨z1, h⟩
          simp [tOr2, tAnd2, tV, e2, eVar, eC, R.bind, vIx, seqItems, e1, e3, i0, i2, vEq, eqC, eqS, asB, vGt, vI, c2, z1, ha]
        · simp [tOr2, tAnd2, tV, e2, eVar, eC, R.bind, vIx, seqItems, e1, e3, i0, i2, vEq, eqC, eqS, asB, vGt, vI, c2, z1]
      have m1 : cMul a 48271 = true := by simp [cMul]
      have m2 : cMul b 69621 = true := by simp [cMul]
      unfold fnM mRoll sSeq sIf
      simp only [t _ hp (show ([CV.ref d, .int m].map some ++ List.replicate (3 - [CV.ref d, .int m].length) none)[0]? = some (some (CV.ref d)) from rfl) e]
      simp [RS.of, sNil, sSetL, eC, eVar, eg, n2, limL, limV, hd, Hc.set, e2, vIx, seqItems, i0, i1, i2, R.bind, vMod, vIC, cMod, eBi, evA, bInt, vAdd, vMul, m1, m2, n0, n1, sRet, vDiv, cDiv, h1]
theorem roll_is (args : List CV) (hp : Hc) : gRoll args hp = .stuck ∨ fnM 3 mRoll args hp = gRoll args hp := by
  unfold gRoll
  split
  · split
    · rename_i d m _ a b c e
      split
      · rename_i h
        rw [Bool.and_eq_true, decide_eq_true_eq, decide_eq_true_eq] at h
        refine .inr (roll_eq ?_ h.1 h.2)
        unfold ix3 at e
        split at e
        · rename_i e'; cases e; exact e'
        · cases e
      · exact .inl rfl
    · exact .inl rfl
  · exact .inl rfl
/-! ### steps by equations -/
theorem sSeq_nx {a b : MS} {env env1 : En} {hp hp1 : Hc} (h : a env hp = .ok (.nx env1) hp1) : sSeq a b env hp = b env1 hp1 := by
  unfold sSeq; rw [h]
theorem sSeq_rt {a b : MS} {env : En} {v : CV} {hp hp1 : Hc} (h : a env hp = .ok (.rt v) hp1) : sSeq a b env hp = .ok (.rt v) hp1 := by
  unfold sSeq; rw [h]
theorem fnM_rt {n : Nat} {body : MS} {args : List CV} {v : CV} {hp hp1 : Hc} (h : body (args.map some ++ List.replicate (n - args.length) none) hp = .ok (.rt v) hp1) : fnM n body args hp = .ok v hp1 := by
  unfold fnM; rw [h]
theorem sAsg_ok {t : Tgt} {m : M CV} {env env1 : En} {hp hp1 : Hc} {v : CV} (h : m env hp = .ok v hp1) (ht : t.f v env = some env1) : sAsg t m env hp = .ok (.nx env1) hp1 := by
  unfold sAsg RS.of; rw [h]; show (match t.f v env with | some env' => RS.ok (.nx env') hp1 | none => .stuck) = _; rw [ht]
theorem bind_ok {α β : Type} {r : R α} {f : α → Hc → R β} {a : α} {hp : Hc} (h : r = .ok a hp) : r.bind f = f a hp := by rw [h]; rfl

/-! ### the rounds -/
theorem cut1 (x : CV) (r : List CV) : cutC (x :: r) none (some 1) = [x] := by
  unfold cutC
  have e1 : HT.sIx (x :: r).length 0 none = 0 := rfl
  have e2 : HT.sIx (x :: r).length (x :: r).length (some 1) = 1 := by
    rw [show (1 : Int) = ((1 : Nat) : Int) from rfl, HT.sIx_nat, List.length_cons]
    omega
  rw [e1, e2]
  rfl
/-- what the laws begin with: one dice in a list of its own -/
structure Begun (j d : Nat) (a b c : Int) (hp : Hc) : Prop where
  row : hp.os[j]? = some (.lst [.ref d])
  dice : hp.os[d]? = some (.lst [.int a, .int b, .int c])
  ne : j ≠ d
  fl : hp.fl = 0
theorem rounds_begin (ns : List Int) : ∃ j d a b c hp, fnM 4 (mRounds gDice) [.lst (ns.map .int), .int 1] ⟨0, []⟩ = .ok (.ref j) hp ∧ Begun j d a b c hp := by
  cases ns with
  | nil => exact ⟨3, 4, _, _, _, _, rfl, ⟨rfl, rfl, by decide, rfl⟩⟩
  | cons x r =>
    have e : vSl (.lst ((x :: r).map .int)) none (some 1) ⟨0, []⟩ = .ok (.ref 0) ⟨0, [.lst [.int x]]⟩ := by
      show newL (cutC (.int x :: r.map .int) none (some 1)) ⟨0, []⟩ = _
      rw [cut1]
      rfl
    have e2 : (eSl (eVar 0) none (some (eVar 1))) [some (.lst ((x :: r).map .int)), some (.int 1), none, none] ⟨0, []⟩ = .ok (.ref 0) ⟨0, [.lst [.int x]]⟩ := e
    have e3 : fnM 4 (mRounds gDice) [.lst ((x :: r).map .int), .int 1] ⟨0, []⟩ = .ok (.ref 2) ⟨0, [.lst [.int x], .lst [], .lst [.ref 3], .lst [.int (diceL x).1, .int (diceL x).2.1, .int (diceL x).2.2]]⟩ := by
      refine fnM_rt ((sSeq_nx (sAsg_ok e2 rfl)).trans ?_)
      rfl
    exact ⟨2, 3, _, _, _, _, e3, ⟨rfl, rfl, by decide, rfl⟩⟩

/-! ### the frame of a law: for dice in _law_rounds(script, 1): ..; return True -/
def Keeps (d : Nat) (hp hp' : Hc) : Prop := hp'.fl = 0 ∧ ∀ i, i ≠ d → i < hp.N → hp'.os[i]? = hp.os[i]?
theorem law_frame {n : Nat} {f : Fn} {body : MS} (hf : ∀ ns : List Int, ∃ j d a b c hp, f [.lst (ns.map .int), .int 1] ⟨0, []⟩ = .ok (.ref j) hp ∧ Begun j d a b c hp)
    (hb : ∀ (s : CV) (j d : Nat) (a b c : Int) (hp : Hc), Begun j d a b c hp → ∃ env2 hp2, body (some s :: some (.ref d) :: List.replicate n none) hp = .ok (.nx env2) hp2 ∧ Keeps d hp hp2) (ns : List Int) :
    ∃ hp', fnM (n + 2) (sSeq (sFor (mIt (eBi f [eVar 0, eC (.int 1)]) itAny) (gNm 1) body) (sRet (eC (.bl true)))) [.lst (ns.map .int)] ⟨0, []⟩ = .ok (.bl true) hp' := by
  obtain ⟨j, d, a, b, c, hp, e1, bg⟩ := hf ns
  obtain ⟨env2, hp2, e2, kp⟩ := hb (.lst (ns.map .int)) j d a b c hp bg
  have hj : j < hp.N := (List.getElem?_eq_some_iff.mp bg.row).1
  have e3 : hp2.os[j]? = some (.lst [.ref d]) := by rw [kp.2 j bg.ne hj]; exact bg.row
  have i1 : mIt (eBi f [eVar 0, eC (.int 1)]) itAny (some (.lst (ns.map .int)) :: none :: List.replicate n none) ⟨0, []⟩ = .ok (live j 1) hp := by
    have q : eBi f [eVar 0, eC (.int 1)] (some (.lst (ns.map .int)) :: none :: List.replicate n none) ⟨0, []⟩ = .ok (.ref j) hp := e1
    unfold mIt
    rw [q]
    show (match itSeq (.ref j) hp with | some it => R.ok it hp | none => R.stuck) = _
    unfold itSeq
    simp only [bg.row]
    rfl
  have l1 : forN (live j 1).next (gNm 1) body 2 0 (some (.lst (ns.map .int)) :: none :: List.replicate n none) hp = .ok (.nx env2) hp2 := by
    have n1 : (live j 1).next 0 hp = some (some (.ref d)) := by
      show (match hp.os[j]? with | some (.lst xs) => some xs[0]? | _ => none) = _
      rw [bg.row]; rfl
    have n2 : (live j 1).next 1 hp2 = some none := by
      show (match hp2.os[j]? with | some (.lst xs) => some xs[1]? | _ => none) = _
      rw [e3]; rfl
    unfold forN
    rw [n1]
    show (match body (some (.lst (ns.map .int)) :: some (.ref d) :: List.replicate n none) hp with | .stuck => RS.stuck | .ok f hp2 => _) = _
    rw [e2]
    show forN (live j 1).next (gNm 1) body 1 1 env2 hp2 = _
    unfold forN
    rw [n2]
  refine ⟨hp2, ?_⟩
  have l2 : sFor (mIt (eBi f [eVar 0, eC (.int 1)]) itAny) (gNm 1) body (some (.lst (ns.map .int)) :: none :: List.replicate n none) ⟨0, []⟩ = .ok (.nx env2) hp2 := by
    unfold sFor
    rw [i1]
    exact l1
  exact fnM_rt ((sSeq_nx l2).trans rfl)
theorem Keeps.refl {d : Nat} {hp : Hc} (h : hp.fl = 0) : Keeps d hp hp := ⟨h, fun _ _ _ => rfl⟩
theorem Keeps.trans {d : Nat} {hp hp1 hp2 : Hc} (h : Keeps d hp hp1) (hn : hp.N ≤ hp1.N) (h' : Keeps d hp1 hp2) : Keeps d hp hp2 :=
  ⟨h'.1, fun i n l => (h'.2 i n (Nat.lt_of_lt_of_le l hn)).trans (h.2 i n l)⟩
/-- a roll's answer lies below its many; the dice stay dice -/
theorem Begun.roll {j d : Nat} {a b c m : Int} {hp : Hc} (g : Begun j d a b c hp) (h1 : 0 < m) (h2 : m < 1073741824) :
    ∃ r a' b' c' hp', gRoll [.ref d, .int m] hp = .ok (.int r) hp' ∧ 0 ≤ r ∧ r < m ∧ Begun j d a' b' c' hp' ∧ hp'.N = hp.N ∧ Keeps d hp hp' := by
  have hd : d < hp.os.length := (List.getElem?_eq_some_iff.mp g.dice).1
  have e : ix3 d hp.os = some (a, b, c) := by unfold ix3; rw [g.dice]
  refine ⟨rollV a b c m, (rollS a b c m).1, (rollS a b c m).2.1, (rollS a b c m).2.2, hp.set d (.lst [.int (rollS a b c m).1, .int (rollS a b c m).2.1, .int (rollS a b c m).2.2]), ?_, rollV_nn h1, rollV_lt h1, ⟨?_, ?_, g.ne, g.fl⟩, Hc.set_N .., g.fl, fun i hi _ => ?_⟩
  · unfold gRoll
    simp only [e]
    rw [if_pos (by rw [decide_eq_true h1, decide_eq_true h2]; rfl)]
  · show (hp.os.set d _)[j]? = _
    rw [List.getElem?_set_ne g.ne.symm]; exact g.row
  · show (hp.os.set d _)[d]? = _
    rw [List.getElem?_set_self hd]
  · show (hp.os.set d _)[i]? = _
    rw [List.getElem?_set_ne hi.symm]
theorem Begun.push {j d : Nat} {a b c : Int} {hp : Hc} (g : Begun j d a b c hp) (o : CO) : Begun j d a b c (hp.push o) ∧ hp.N ≤ (hp.push o).N ∧ Keeps d hp (hp.push o) := by
  have up : ∀ i, i < hp.os.length → (hp.push o).os[i]? = hp.os[i]? := fun i hi => by
    show (hp.os ++ [o])[i]? = _
    rw [List.getElem?_append_left hi]
  refine ⟨⟨?_, ?_, g.ne, g.fl⟩, by rw [Hc.push_N]; exact Nat.le_succ _, g.fl, fun i _ hi => up i hi⟩
  · rw [up j (List.getElem?_eq_some_iff.mp g.row).1]; exact g.row
  · rw [up d (List.getElem?_eq_some_iff.mp g.dice).1]; exact g.dice
theorem forN_nil {next : Nat → Hc → Option (Option CV)} {tg : Tgt} {body : MS} {m i : Nat} {env : En} {hp : Hc} (h : next i hp = some none) : forN next tg body (m + 1) i env hp = .ok (.nx env) hp := by
  unfold forN; rw [h]
theorem forN_nx {next : Nat → Hc → Option (Option CV)} {tg : Tgt} {body : MS} {m i : Nat} {env env1 env2 : En} {hp hp2 : Hc} {x : CV} (h : next i hp = some (some x)) (ht : tg.f x env = some env1) (hb : body env1 hp = .ok (.nx env2) hp2) :
    forN next tg body (m + 1) i env hp = forN next tg body m (i + 1) env2 hp2 := by
  conv => lhs; unfold forN
  rw [h]
  simp only [ht, hb]
/-- rows that no turn changes -/
theorem for_snap {xs : List CV} {tg : Tgt} {body : MS} {hp : Hc} (P : En → Prop) (h : ∀ x ∈ xs, ∀ env, P env → ∃ env1 env2, tg.f x env = some env1 ∧ body env1 hp = .ok (.nx env2) hp ∧ P env2) :
    ∀ (m i : Nat) (env : En), P env → xs.length + 1 ≤ m + i → i ≤ xs.length → ∃ env', P env' ∧ forN (snap xs).next tg body m i env hp = .ok (.nx env') hp := by
  intro m
  induction m with
  | zero => intro i env _ h1 h2; omega
  | succ m ih =>
    intro i env p h1 h2
    cases e : xs[i]? with
    | none => exact ⟨env, p, forN_nil (show some xs[i]? = _ by rw [e])⟩
    | some x =>
      have hl := (List.getElem?_eq_some_iff.mp e)
      obtain ⟨env1, env2, q1, q2, p2⟩ := h x (hl.2 ▸ List.getElem_mem hl.1) env p
      obtain ⟨env', p', q'⟩ := ih (i + 1) env2 p2 (by omega) hl.1
      exact ⟨env', p', (forN_nx (show some xs[i]? = _ by rw [e]) q1 q2).trans q'⟩
theorem atI_nn {α : Type} {xs : List α} {i : Int} (h : 0 ≤ i) (hl : i < xs.length) : atI xs i = xs[i.toNat]? := by
  unfold atI ixN
  simp [h, hl]
theorem atI_mem {α : Type} {xs : List α} {i : Int} (h : 0 ≤ i) (hl : i < xs.length) : ∃ x ∈ xs, atI xs i = some x := by
  rw [atI_nn h hl]
  have hi : i.toNat < xs.length := by omega
  exact ⟨xs[i.toNat], List.getElem_mem hi, List.getElem?_eq_getElem hi⟩
/-! ### answers of calls over a heap of their own -/
theorem loc_bl {f : Fn} {args : List CV} {b : Bool} {hp' : Hc} (h : f args ⟨0, []⟩ = .ok (.bl b) hp') (ha : offL args = true) (hp : Hc) : loc f args hp = .ok (.bl b) hp := by
  unfold loc
  rw [if_pos ha, h]
  rfl
theorem loc_int {f : Fn} {args : List CV} {b : Int} {hp' : Hc} (h : f args ⟨0, []⟩ = .ok (.int b) hp') (ha : offL args = true) (hp : Hc) : loc f args hp = .ok (.int b) hp := by
  unfold loc
  rw [if_pos ha, h]
  rfl
/-- two functions answer alike -/
def sameR (a b : R CV) : Bool := match a, b with
  | .ok (.bl x) _, .ok (.bl y) _ => x == y
  | .ok (.int x) _, .ok (.int y) _ => decide (x = y)
  | _, _ => false
theorem same_loc {f g : Fn} {as bs : List CV} (h : sameR (f as ⟨0, []⟩) (g bs ⟨0, []⟩) = true) (ha : offL as = true) (hb : offL bs = true) (hp : Hc) :
    ∃ v, loc f as hp = .ok v hp ∧ loc g bs hp = .ok v hp ∧ ∀ os, eqC os v v = some true := by
  revert h
  cases e1 : f as ⟨0, []⟩ with
  | stuck => intro h; cases h
  | exc _ _ _ => intro h; cases h
  | ok x h1 =>
    cases e2 : g bs ⟨0, []⟩ with
    | stuck => intro h; cases x <;> cases h
    | exc _ _ _ => intro h; cases x <;> cases h
    | ok y h2 =>
      intro h
      cases x <;> cases y <;> first | (cases h; done) | skip
      · rename_i p q
        have e : p = q := eq_of_beq h
        subst e
        exact ⟨_, loc_bl e1 ha hp, loc_bl e2 hb hp, fun os => by cases p <;> rfl⟩
      · rename_i p q
        have e : p = q := of_decide_eq_true h
        subst e
        exact ⟨_, loc_int e1 ha hp, loc_int e2 hb hp, fun os => by simp [eqC, eqS]⟩
end Bl

/-! Own layer, part P: a law's end over the head's data. -/
namespace Bl
open PySem PySem.Spec PyProof.Rows L2
/-- the law's def, by its clean function: at every script it answers True -/
theorem law_sp {Γ : Gx} {f : Fn} (hT : Γ.T = []) (hf : ∀ ns : List Int, ∃ hp', f [.lst (ns.map .int)] ⟨0, []⟩ = .ok (.bl true) hp') {H : Hp} {a : Addr} {ns : List Int} (hS : SqL Γ.K H a (ns.map V.int)) :
    spF Γ 1 f [.ref a] H (fun v _ => v = .bl true) fun _ _ _ => False := by
  obtain ⟨hp', e⟩ := hf ns
  have allI : ∀ ms : List Int, Reps Γ (fun _ => 0) 0 H 0 (ms.map CV.int) (ms.map V.int) := fun ms => by
    induction ms with
    | nil => unfold Reps; rfl
    | cons m r ih =>
      show Reps Γ (fun _ => 0) 0 H 0 (CV.int m :: r.map CV.int) (V.int m :: r.map V.int)
      unfold Reps
      exact ⟨_, _, rfl, repI, ih⟩
  refine ⟨rfl, fun _ => 0, [], ⟨0, []⟩, [.lst (ns.map .int)], srh_nil (by rw [hT]; intro p hp; cases hp), reps1 ?_, ?_⟩
  · show Rep Γ (fun _ => 0) 0 H 0 (.lst (ns.map .int)) (.ref a)
    unfold Rep
    refine ⟨a, _, rfl, ?_, allI ns⟩
    rcases hS with h | h
    · exact .inl ⟨fun ⟨i, hi, _⟩ => absurd hi (Nat.not_lt_zero i), h⟩
    · exact .inr h
  · rw [e]
    intro ρ' H' x _ _ h
    have h' : Rep Γ ρ' hp'.N H' hp'.N (.bl true) x := h
    unfold Rep at h'
    exact h'
/-- such a law walks: F gives the written part and the def's promise -/
theorem law_walk {l : PySem.W.OpenLaw} {n k : Nat} {q : Program} {loose : List Str} {XP : (Str → Option Value) → Heap → Prop} {YP : World → Heap → Prop} {d : DefRec} {x : Str}
    (hn : l.most = some n) (hz : n ≤ sizeLine) (hdf : d.params.defaults = []) (hr : Room k callerA)
    (F : ∀ (w : World) (mg : Str → Option Value) (fa : Addr) (h : Heap), YP w h → h.Ns mainGlobals mg → mg d.name = some (.ref fa) →
      ∃ (K : PySem.W.Frag) (fd : FuncData) (Γ : Gx) (f : Fn), K.In h ∧ Γ.K = K ∧ Γ.T = [] ∧ (∀ (s : Shared) (u : Value), BindsTo s fd ⟨[u], []⟩ [(x, u)]) ∧ (∀ ns : List Int, ∃ hp', f [.lst (ns.map .int)] ⟨0, []⟩ = .ok (.bl true) hp') ∧
        ∀ base : Heap, K.In base → base.Ns mainGlobals mg → FnOk l.prog w K mg base (L2.CX l.prog w) k fa fd [x] (spF Γ 1 f)) :
    PySem.W.WalkO q loose XP YP l.row.toRowW d [] (fun f vs => PySem.call f vs) := by
  refine Att.attach_call hn hdf fun w s₀ s₁ mg mb fa o pm cd doc a vs ns G Y ho hd hcd hmg hobj hints hlen hg => ?_
  obtain ⟨K, fd, Γ, f, kin, eK, eT, hb, hf, hF⟩ := F w mg fa _ Y G.T.g hmg
  subst eK
  refine law_call kin G.T.g G.T.b G.T.builtins G.T.nolimit hg hobj hints (Nat.le_trans hlen hz) hr hF hb (fun H _ hS => law_sp eT hf hS) fun H e s' hc => ?_
  obtain ⟨_, _, _, _, _, _, _, _, _, _, _, _, z⟩ := hc
  exact z
end Bl

namespace K20
open PySem PySem.Spec PyProof.Rows L2 Bl
def top (i : Nat) : Stmt := PySem.Challenge.pw_blazonhall_k20_shapes.main.body.getD i (.Pass ⟨0, 0, 0, 0⟩)
def c_WIDE : CV := .int 12
def c_HIGH : CV := .int 14
def c_SPANS : CV := .wtp [.wtp [.int 0, .int 12], .wtp [.int 0, .int 12], .wtp [.int 0, .int 12], .wtp [.int 0, .int 12], .wtp [.int 0, .int 12], .wtp [.int 0, .int 12], .wtp [.int 0, .int 12], .wtp [.int 0, .int 12], .wtp [.int 1, .int 11], .wtp [.int 2, .int 10], .wtp [.int 3, .int 9], .wtp [.int 4, .int 8], .wtp [.int 5, .int 7], .wtp [.int 5, .int 7]]
def c_NAMES : CV := .wtp [.str [112, 97, 108, 101], .str [102, 101, 115, 115], .str [98, 101, 110, 100], .str [115, 105, 110, 105, 115, 116, 101, 114], .str [99, 104, 101, 118, 114, 111, 110], .str [99, 114, 111, 115, 115], .str [115, 97, 108, 116, 105, 114, 101], .str [99, 104, 105, 101, 102], .str [98, 97, 115, 101], .str [98, 111, 114, 100, 101, 114], .str [99, 97, 110, 116, 111, 110]]
abbrev s_within : Stmt := top 7
abbrev s_squares : Stmt := top 8
abbrev s_on_band : Stmt := top 11
abbrev s_is_border : Stmt := top 12
abbrev s_part_of : Stmt := top 14
abbrev s_saltire_part : Stmt := top 15
abbrev s__law_dice : Stmt := top 17
abbrev s__law_roll : Stmt := top 18
abbrev s__law_rounds : Stmt := top 19
abbrev s__law_on : Stmt := top 20
abbrev s__law_in : Stmt := top 21
abbrev s_law : Stmt := top 22
/-- what the top has written -/
structure Fx (K : PySem.W.Frag) (mg : Str → Option Value) (Γ : Gx) : Prop where
  g_HIGH : Gv mg Γ "HIGH" c_HIGH
  g_NAMES : Gv mg Γ "NAMES" c_NAMES
  g_SPANS : Gv mg Γ "SPANS" c_SPANS
  g_WIDE : Gv mg Γ "WIDE" c_WIDE
  n_abs : mg "abs" = none
  n_enumerate : mg "enumerate" = none
  n_int : mg "int" = none
  n_max : mg "max" = none
  n_range : mg "range" = none
  n_tuple : mg "tuple" = none
  d_within : DefK K mg "within" (defArgs s_within) (defBody s_within) (defScope s_within) ["row", "column"]
  d_squares : DefK K mg "squares" (defArgs s_squares) (defBody s_squares) (defScope s_squares) []
  d_on_band : DefK K mg "on_band" (defArgs s_on_band) (defBody s_on_band) (defScope s_on_band) ["name", "row", "column", "width"]
  d_is_border : DefK K mg "is_border" (defArgs s_is_border) (defBody s_is_border) (defScope s_is_border) ["row", "column", "width"]
  d_part_of : DefK K mg "part_of" (defArgs s_part_of) (defBody s_part_of) (defScope s_part_of) ["division", "row", "column", "many"]
  d_saltire_part : DefK K mg "saltire_part" (defArgs s_saltire_part) (defBody s_saltire_part) (defScope s_saltire_part) ["row", "column"]
  d__law_dice : DefK K mg "_law_dice" (defArgs s__law_dice) (defBody s__law_dice) (defScope s__law_dice) ["cell"]
  d__law_roll : DefK K mg "_law_roll" (defArgs s__law_roll) (defBody s__law_roll) (defScope s__law_roll) ["dice", "many"]
  d__law_rounds : DefK K mg "_law_rounds" (defArgs s__law_rounds) (defBody s__law_rounds) (defScope s__law_rounds) ["script", "most"]
  d__law_on : DefK K mg "_law_on" (defArgs s__law_on) (defBody s__law_on) (defScope s__law_on) ["name", "row", "column", "wide"]
  d__law_in : DefK K mg "_law_in" (defArgs s__law_in) (defBody s__law_in) (defScope s__law_in) ["division", "row", "column"]
  d_law : DefK K mg "law" (defArgs s_law) (defBody s_law) (defScope s_law) ["script"]
section
variable {P : Program} {w : World} {K : PySem.W.Frag} {mg : Str → Option Value} {base : Heap} {Γ : Gx} {k : Nat}
def b_within : MS := sRet (eAnd2 (eChain vLe vLt (eC (.int 0)) (eVar 0) (eC c_HIGH)) (eChain vLe vLt (e2 vIx (e2 vIx (eC c_SPANS) (eVar 0)) (eC (.int 0))) (eVar 1) (e2 vIx (e2 vIx (eC c_SPANS) (eVar 0)) (eC (.int 1)))))
abbrev m_within : Fn := fnM 2 (b_within)
theorem sc_within : FnScope ["row", "column"] ["row", "column"] (defScope s_within) := ⟨rfl, rfl, rfl, by decide +kernel, rfl, by decide +kernel, by decide +kernel⟩
theorem w_within (fx : Fx K mg Γ)  {f : Addr} {cdv : Value} {A : Around} {outer : List Env} {s : Shared} {H : Hp} {E : XK} (S : Sx (cxOf (L2.CX P w) P w K mg base ["row", "column"] "within" (defScope s_within) f cdv A outer s H E) Γ (WK E) k) : SimSs (cxOf (L2.CX P w) P w K mg base ["row", "column"] "within" (defScope s_within) f cdv A outer s H E) Γ (WK E) (defBody s_within) (b_within) := by exact (sim_s1 (sim_ret (sim_and (sim_chain oc_le oc_lt sim_int (sim_tvar (pv 0)) (sim_glob fx.g_HIGH)) (sim_b1 (sim_chain oc_le oc_lt (sim_ix (sim_ix (sim_glob fx.g_SPANS) (sim_tvar (pv 0))) sim_int) (sim_tvar (pv 1)) (sim_ix (sim_ix (sim_glob fx.g_SPANS) (sim_tvar (pv 0))) sim_int))))))
theorem k_within (hK : Γ.K = K) (fx : Fx K mg Γ)  : Kn P w K mg base Γ (k + 1) "within" 2 (fnM 2 (b_within)) := fx.d_within.kn sc_within hK rfl fun _ _ _ _ _ _ _ S => w_within fx S
theorem o_within (hK : Γ.K = K) (fx : Fx K mg Γ)  {f : Addr} {fd : FuncData} (F : FunD K "within" "within" (defArgs s_within) (defBody s_within) (defScope s_within) [] [] f fd) : FnOk P w K mg base (L2.CX P w) (k + 1) f fd ["row", "column"] (spF Γ 2 (fnM 2 (b_within))) := fn_okD F sc_within hK rfl fun _ _ _ _ _ _ S => w_within fx S
def b_squares : MS := sRet (eBi bTuple [eComp2 (mIt (evA [eC c_SPANS]) itEnA) (gTp 2 (gsCons (gNm 0) (gsCons (gTp 2 (gsCons (gNm 1) (gsCons (gNm 2) (gsNil)))) (gsNil)))) (tTrue) (mIt (evA [eVar 1, eVar 2]) itR2) (gNm 3) (tTrue) (eTup [eVar 0, eVar 3]) [0, 1, 2, 3] [3]])
abbrev m_squares : Fn := fnM 4 (b_squares)
theorem sc_squares : FnScope ["j", "low", "high", "k"] [] (defScope s_squares) := ⟨rfl, rfl, rfl, by decide +kernel, rfl, by decide +kernel, by decide +kernel⟩
theorem w_squares (fx : Fx K mg Γ)  {f : Addr} {cdv : Value} {A : Around} {outer : List Env} {s : Shared} {H : Hp} {E : XK} (S : Sx (cxOf (L2.CX P w) P w K mg base ["j", "low", "high", "k"] "squares" (defScope s_squares) f cdv A outer s H E) Γ (WK E) k) : SimSs (cxOf (L2.CX P w) P w K mg base ["j", "low", "high", "k"] "squares" (defScope s_squares) f cdv A outer s H E) Γ (WK E) (defBody s_squares) (b_squares) := by exact (sim_s1 (sim_ret (sim_ty bc_tuple (by rfl) fx.n_tuple boot_tuple (sim_cons (sim_comp2 (own := [("j", 0), ("low", 1), ("high", 2), ("k", 3)]) (vs1 := [3]) (blkOk_by (by kernel_rfl)) (sim_ienA (by rfl) fx.n_enumerate (sim_cons (sim_glob fx.g_SPANS) sim_nil)) (fun _ _ _ _ _ => by exact (sim_gtup (sim_gscons (sim_gname (i := 0) rfl (by first | exact .inl rfl | exact .inr rfl)) (sim_gscons (sim_gtup (sim_gscons (sim_gname (i := 1) rfl (by first | exact .inl rfl | exact .inr rfl)) (sim_gscons (sim_gname (i := 2) rfl (by first | exact .inl rfl | exact .inr rfl)) sim_gsnil))) sim_gsnil)))) (fun _ _ _ _ _ => by exact sim_tests0) (fun _ _ _ _ _ => by exact (sim_r2 (by rfl) fx.n_range (sim_cons (sim_tvar (pv 1)) (sim_cons (sim_tvar (pv 2)) sim_nil)))) (fun _ _ _ _ _ => by exact (sim_gname (i := 3) rfl (by first | exact .inl rfl | exact .inr rfl))) (fun _ _ _ _ _ => by exact sim_tests0) (fun _ _ _ _ _ => by exact (sim_tup (sim_cons (sim_tvar (pv 0)) (sim_cons (sim_tvar (pv 3)) sim_nil))))) sim_nil))))
theorem k_squares (hK : Γ.K = K) (fx : Fx K mg Γ)  : Kn P w K mg base Γ (k + 1) "squares" 0 (fnM 4 (b_squares)) := fx.d_squares.kn sc_squares hK rfl fun _ _ _ _ _ _ _ S => w_squares fx S
theorem o_squares (hK : Γ.K = K) (fx : Fx K mg Γ)  {f : Addr} {fd : FuncData} (F : FunD K "squares" "squares" (defArgs s_squares) (defBody s_squares) (defScope s_squares) [] [] f fd) : FnOk P w K mg base (L2.CX P w) (k + 1) f fd [] (spF Γ 0 (fnM 4 (b_squares))) := fn_okD F sc_squares hK rfl fun _ _ _ _ _ _ S => w_squares fx S
def b_on_band (f_on_band f_is_border : Fn) : MS := sSeq (sIf (tV (e2 (vIn true) (eVar 0) (eC c_NAMES))) (sStuck) (sNil)) (sSeq (sIf (tNot1 (tV (eChain vLe vLe (eC (.int 1)) (eVar 3) (eC (.int 6))))) (sStuck) (sNil)) (sSeq (sIf (tV (e2 (vEq false) (eVar 0) (eC (.str [112, 97, 108, 101])))) (sRet (e2 vLt (eBi bAbs [e2 vAdd (e2 vSub (e2 vMul (eC (.int 2)) (eVar 2)) (eC c_WIDE)) (eC (.int 1))]) (e2 vMul (eC (.int 2)) (eVar 3)))) (sNil)) (sSeq (sIf (tV (e2 (vEq false) (eVar 0) (eC (.str [102, 101, 115, 115])))) (sRet (e2 vLt (eBi bAbs [e2 vAdd (e2 vSub (e2 vMul (eC (.int 2)) (eVar 1)) (eC c_HIGH)) (eC (.int 1))]) (e2 vMul (eC (.int 2)) (eVar 3)))) (sNil)) (sSeq (sIf (tV (e2 (vEq false) (eVar 0) (eC (.str [98, 101, 110, 100])))) (sRet (e2 vLt (eBi bAbs [e2 vSub (eVar 1) (eVar 2)]) (eVar 3))) (sNil)) (sSeq (sIf (tV (e2 (vEq false) (eVar 0) (eC (.str [115, 105, 110, 105, 115, 116, 101, 114])))) (sRet (e2 vLt (eBi bAbs [e2 vSub (eVar 1) (e2 vSub (e2 vSub (eC c_WIDE) (eC (.int 1))) (eVar 2))]) (eVar 3))) (sNil)) (sSeq (sIf (tV (e2 (vEq false) (eVar 0) (eC (.str [99, 104, 101, 118, 114, 111, 110])))) (sRet (eChain vLe vLt (eC (.int 0)) (e2 vSub (e2 vSub (eVar 1) (eC (.int 3))) (e2 vDiv (eBi bAbs [e2 vAdd (e2 vSub (e2 vMul (eC (.int 2)) (eVar 2)) (eC c_WIDE)) (eC (.int 1))]) (eC (.int 2)))) (eVar 3))) (sNil)) (sSeq (sIf (tV (e2 (vEq false) (eVar 0) (eC (.str [99, 114, 111, 115, 115])))) (sRet (eOr2 (eBi f_on_band [eC (.str [112, 97, 108, 101]), eVar 1, eVar 2, eVar 3]) (e2 vLt (eBi bAbs [e2 vAdd (e2 vSub (e2 vMul (eC (.int 2)) (eVar 1)) (eC c_WIDE)) (eC (.int 1))]) (e2 vMul (eC (.int 2)) (eVar 3))))) (sNil)) (sSeq (sIf (tV (e2 (vEq false) (eVar 0) (eC (.str [115, 97, 108, 116, 105, 114, 101])))) (sRet (eOr2 (eBi f_on_band [eC (.str [98, 101, 110, 100]), eVar 1, eVar 2, eVar 3]) (eBi f_on_band [eC (.str [115, 105, 110, 105, 115, 116, 101, 114]), eVar 1, eVar 2, eVar 3]))) (sNil)) (sSeq (sIf (tV (e2 (vEq false) (eVar 0) (eC (.str [99, 104, 105, 101, 102])))) (sRet (e2 vLt (eVar 1) (eVar 3))) (sNil)) (sSeq (sIf (tV (e2 (vEq false) (eVar 0) (eC (.str [98, 97, 115, 101])))) (sRet (e2 vGe (eVar 1) (e2 vSub (eC c_HIGH) (e2 vMul (eC (.int 2)) (eVar 3))))) (sNil)) (sSeq (sIf (tV (e2 (vEq false) (eVar 0) (eC (.str [99, 97, 110, 116, 111, 110])))) (sRet (eAnd2 (e2 vLt (eVar 1) (e2 vAdd (eVar 3) (eC (.int 1)))) (e2 vLt (eVar 2) (e2 vAdd (eVar 3) (eC (.int 1)))))) (sNil)) (sRet (eBi f_is_border [eVar 1, eVar 2, eVar 3])))))))))))))
abbrev m_on_band (f_on_band f_is_border : Fn) : Fn := fnM 4 (b_on_band f_on_band f_is_border)
theorem sc_on_band : FnScope ["name", "row", "column", "width"] ["name", "row", "column", "width"] (defScope s_on_band) := ⟨rfl, rfl, rfl, by decide +kernel, rfl, by decide +kernel, by decide +kernel⟩
theorem w_on_band (fx : Fx K mg Γ) {f_on_band f_is_border : Fn} (h_on_band : Kn P w K mg base Γ k "on_band" 4 f_on_band) (h_is_border : Kn P w K mg base Γ k "is_border" 3 f_is_border) {f : Addr} {cdv : Value} {A : Around} {outer : List Env} {s : Shared} {H : Hp} {E : XK} (S : Sx (cxOf (L2.CX P w) P w K mg base ["name", "row", "column", "width"] "on_band" (defScope s_on_band) f cdv A outer s H E) Γ (WK E) k) : SimSs (cxOf (L2.CX P w) P w K mg base ["name", "row", "column", "width"] "on_band" (defScope s_on_band) f cdv A outer s H E) Γ (WK E) (defBody s_on_band) (b_on_band f_on_band f_is_border) := by exact (sim_seq (sim_sif (sim_tcmp oc_nin (sim_tvar (pv 0)) (sim_glob fx.g_NAMES)) (sim_s1 sim_sstuck) sim_snil) (sim_seq (sim_sif (sim_tnot (sim_tchain oc_le oc_le sim_int (sim_tvar (pv 3)) sim_int)) (sim_s1 sim_sstuck) sim_snil) (sim_seq (sim_sif (sim_tcmp oc_eq (sim_tvar (pv 0)) (sim_str (s := [112, 97, 108, 101]))) (sim_s1 (sim_ret (sim_cmp oc_lt (sim_bi bc_abs (by rfl) fx.n_abs boot_abs (sim_cons (sim_op oc_add (sim_op oc_sub (sim_op oc_mul sim_int (sim_tvar (pv 2))) (sim_glob fx.g_WIDE)) sim_int) sim_nil)) (sim_op oc_mul sim_int (sim_tvar (pv 3)))))) sim_snil) (sim_seq (sim_sif (sim_tcmp oc_eq (sim_tvar (pv 0)) (sim_str (s := [102, 101, 115, 115]))) (sim_s1 (sim_ret (sim_cmp oc_lt (sim_bi bc_abs (by rfl) fx.n_abs boot_abs (sim_cons (sim_op oc_add (sim_op oc_sub (sim_op oc_mul sim_int (sim_tvar (pv 1))) (sim_glob fx.g_HIGH)) sim_int) sim_nil)) (sim_op oc_mul sim_int (sim_tvar (pv 3)))))) sim_snil) (sim_seq (sim_sif (sim_tcmp oc_eq (sim_tvar (pv 0)) (sim_str (s := [98, 101, 110, 100]))) (sim_s1 (sim_ret (sim_cmp oc_lt (sim_bi bc_abs (by rfl) fx.n_abs boot_abs (sim_cons (sim_op oc_sub (sim_tvar (pv 1)) (sim_tvar (pv 2))) sim_nil)) (sim_tvar (pv 3))))) sim_snil) (sim_seq (sim_sif (sim_tcmp oc_eq (sim_tvar (pv 0)) (sim_str (s := [115, 105, 110, 105, 115, 116, 101, 114]))) (sim_s1 (sim_ret (sim_cmp oc_lt (sim_bi bc_abs (by rfl) fx.n_abs boot_abs (sim_cons (sim_op oc_sub (sim_tvar (pv 1)) (sim_op oc_sub (sim_op oc_sub (sim_glob fx.g_WIDE) sim_int) (sim_tvar (pv 2)))) sim_nil)) (sim_tvar (pv 3))))) sim_snil) (sim_seq (sim_sif (sim_tcmp oc_eq (sim_tvar (pv 0)) (sim_str (s := [99, 104, 101, 118, 114, 111, 110]))) (sim_s1 (sim_ret (sim_chain oc_le oc_lt sim_int (sim_op oc_sub (sim_op oc_sub (sim_tvar (pv 1)) sim_int) (sim_op oc_div (sim_bi bc_abs (by rfl) fx.n_abs boot_abs (sim_cons (sim_op oc_add (sim_op oc_sub (sim_op oc_mul sim_int (sim_tvar (pv 2))) (sim_glob fx.g_WIDE)) sim_int) sim_nil)) sim_int)) (sim_tvar (pv 3))))) sim_snil) (sim_seq (sim_sif (sim_tcmp oc_eq (sim_tvar (pv 0)) (sim_str (s := [99, 114, 111, 115, 115]))) (sim_s1 (sim_ret (sim_or (sim_call h_on_band (Nat.le_refl _) (sim_cons (sim_str (s := [112, 97, 108, 101])) (sim_cons (sim_tvar (pv 1)) (sim_cons (sim_tvar (pv 2)) (sim_cons (sim_tvar (pv 3)) sim_nil))))) (sim_b1 (sim_cmp oc_lt (sim_bi bc_abs (by rfl) fx.n_abs boot_abs (sim_cons (sim_op oc_add (sim_op oc_sub (sim_op oc_mul sim_int (sim_tvar (pv 1))) (sim_glob fx.g_WIDE)) sim_int) sim_nil)) (sim_op oc_mul sim_int (sim_tvar (pv 3)))))))) sim_snil) (sim_seq (sim_sif (sim_tcmp oc_eq (sim_tvar (pv 0)) (sim_str (s := [115, 97, 108, 116, 105, 114, 101]))) (sim_s1 (sim_ret (sim_or (sim_call h_on_band (Nat.le_refl _) (sim_cons (sim_str (s := [98, 101, 110, 100])) (sim_cons (sim_tvar (pv 1)) (sim_cons (sim_tvar (pv 2)) (sim_cons (sim_tvar (pv 3)) sim_nil))))) (sim_b1 (sim_call h_on_band (Nat.le_refl _) (sim_cons (sim_str (s := [115, 105, 110, 105, 115, 116, 101, 114])) (sim_cons (sim_tvar (pv 1)) (sim_cons (sim_tvar (pv 2)) (sim_cons (sim_tvar (pv 3)) sim_nil))))))))) sim_snil) (sim_seq (sim_sif (sim_tcmp oc_eq (sim_tvar (pv 0)) (sim_str (s := [99, 104, 105, 101, 102]))) (sim_s1 (sim_ret (sim_cmp oc_lt (sim_tvar (pv 1)) (sim_tvar (pv 3))))) sim_snil) (sim_seq (sim_sif (sim_tcmp oc_eq (sim_tvar (pv 0)) (sim_str (s := [98, 97, 115, 101]))) (sim_s1 (sim_ret (sim_cmp oc_ge (sim_tvar (pv 1)) (sim_op oc_sub (sim_glob fx.g_HIGH) (sim_op oc_mul sim_int (sim_tvar (pv 3))))))) sim_snil) (sim_seq (sim_sif (sim_tcmp oc_eq (sim_tvar (pv 0)) (sim_str (s := [99, 97, 110, 116, 111, 110]))) (sim_s1 (sim_ret (sim_and (sim_cmp oc_lt (sim_tvar (pv 1)) (sim_op oc_add (sim_tvar (pv 3)) sim_int)) (sim_b1 (sim_cmp oc_lt (sim_tvar (pv 2)) (sim_op oc_add (sim_tvar (pv 3)) sim_int)))))) sim_snil) (sim_s1 (sim_ret (sim_call h_is_border (Nat.le_refl _) (sim_cons (sim_tvar (pv 1)) (sim_cons (sim_tvar (pv 2)) (sim_cons (sim_tvar (pv 3)) sim_nil))))))))))))))))))
theorem k_on_band (hK : Γ.K = K) (fx : Fx K mg Γ) {f_on_band f_is_border : Fn} (h_on_band : Kn P w K mg base Γ k "on_band" 4 f_on_band) (h_is_border : Kn P w K mg base Γ k "is_border" 3 f_is_border) : Kn P w K mg base Γ (k + 1) "on_band" 4 (fnM 4 (b_on_band f_on_band f_is_border)) := fx.d_on_band.kn sc_on_band hK rfl fun _ _ _ _ _ _ _ S => w_on_band fx h_on_band h_is_border S
theorem o_on_band (hK : Γ.K = K) (fx : Fx K mg Γ) {f_on_band f_is_border : Fn} (h_on_band : Kn P w K mg base Γ k "on_band" 4 f_on_band) (h_is_border : Kn P w K mg base Γ k "is_border" 3 f_is_border) {f : Addr} {fd : FuncData} (F : FunD K "on_band" "on_band" (defArgs s_on_band) (defBody s_on_band) (defScope s_on_band) [] [] f fd) : FnOk P w K mg base (L2.CX P w) (k + 1) f fd ["name", "row", "column", "width"] (spF Γ 4 (fnM 4 (b_on_band f_on_band f_is_border))) := fn_okD F sc_on_band hK rfl fun _ _ _ _ _ _ S => w_on_band fx h_on_band h_is_border S
def b_is_border (f_within : Fn) : MS := sSeq (sFor (mIt (evA [eC (.int 1), e2 vAdd (eVar 2) (eC (.int 1))]) itR2) (gNm 3) (sFor (mIt (eTup [eTup [e2 vAdd (eVar 0) (eVar 3), eVar 1], eTup [e2 vSub (eVar 0) (eVar 3), eVar 1], eTup [eVar 0, e2 vAdd (eVar 1) (eVar 3)], eTup [eVar 0, e2 vSub (eVar 1) (eVar 3)]]) itAny) (gTp 2 (gsCons (gNm 4) (gsCons (gNm 5) (gsNil)))) (sIf (tNot1 (tV (eBi f_within [eVar 4, eVar 5]))) (sRet (eC (.bl true))) (sNil)))) (sRet (eC (.bl false)))
abbrev m_is_border (f_within : Fn) : Fn := fnM 6 (b_is_border f_within)
theorem sc_is_border : FnScope ["row", "column", "width", "step", "a", "b"] ["row", "column", "width"] (defScope s_is_border) := ⟨rfl, rfl, rfl, by decide +kernel, rfl, by decide +kernel, by decide +kernel⟩
theorem w_is_border (fx : Fx K mg Γ) {f_within : Fn} (h_within : Kn P w K mg base Γ k "within" 2 f_within) {f : Addr} {cdv : Value} {A : Around} {outer : List Env} {s : Shared} {H : Hp} {E : XK} (S : Sx (cxOf (L2.CX P w) P w K mg base ["row", "column", "width", "step", "a", "b"] "is_border" (defScope s_is_border) f cdv A outer s H E) Γ (WK E) k) : SimSs (cxOf (L2.CX P w) P w K mg base ["row", "column", "width", "step", "a", "b"] "is_border" (defScope s_is_border) f cdv A outer s H E) Γ (WK E) (defBody s_is_border) (b_is_border f_within) := by exact (sim_seq (sim_for (passes_of rfl) (sim_r2 (by rfl) fx.n_range (sim_cons sim_int (sim_cons (sim_op oc_add (sim_tvar (pv 2)) sim_int) sim_nil))) (sim_gname (i := 3) rfl (by first | exact .inl rfl | exact .inr rfl)) (sim_s1 (sim_for (passes_of rfl) (sim_iany (sim_tup (sim_cons (sim_tup (sim_cons (sim_op oc_add (sim_tvar (pv 0)) (sim_tvar (pv 3))) (sim_cons (sim_tvar (pv 1)) sim_nil))) (sim_cons (sim_tup (sim_cons (sim_op oc_sub (sim_tvar (pv 0)) (sim_tvar (pv 3))) (sim_cons (sim_tvar (pv 1)) sim_nil))) (sim_cons (sim_tup (sim_cons (sim_tvar (pv 0)) (sim_cons (sim_op oc_add (sim_tvar (pv 1)) (sim_tvar (pv 3))) sim_nil))) (sim_cons (sim_tup (sim_cons (sim_tvar (pv 0)) (sim_cons (sim_op oc_sub (sim_tvar (pv 1)) (sim_tvar (pv 3))) sim_nil))) sim_nil)))))) (sim_gtup (sim_gscons (sim_gname (i := 4) rfl (by first | exact .inl rfl | exact .inr rfl)) (sim_gscons (sim_gname (i := 5) rfl (by first | exact .inl rfl | exact .inr rfl)) sim_gsnil))) (sim_s1 (sim_sif (sim_tnot (sim_tv (sim_call h_within (Nat.le_refl _) (sim_cons (sim_tvar (pv 4)) (sim_cons (sim_tvar (pv 5)) sim_nil))))) (sim_s1 (sim_ret sim_bl)) sim_snil))))) (sim_s1 (sim_ret sim_bl)))
theorem k_is_border (hK : Γ.K = K) (fx : Fx K mg Γ) {f_within : Fn} (h_within : Kn P w K mg base Γ k "within" 2 f_within) : Kn P w K mg base Γ (k + 1) "is_border" 3 (fnM 6 (b_is_border f_within)) := fx.d_is_border.kn sc_is_border hK rfl fun _ _ _ _ _ _ _ S => w_is_border fx h_within S
theorem o_is_border (hK : Γ.K = K) (fx : Fx K mg Γ) {f_within : Fn} (h_within : Kn P w K mg base Γ k "within" 2 f_within) {f : Addr} {fd : FuncData} (F : FunD K "is_border" "is_border" (defArgs s_is_border) (defBody s_is_border) (defScope s_is_border) [] [] f fd) : FnOk P w K mg base (L2.CX P w) (k + 1) f fd ["row", "column", "width"] (spF Γ 3 (fnM 6 (b_is_border f_within))) := fn_okD F sc_is_border hK rfl fun _ _ _ _ _ _ S => w_is_border fx h_within S
def b_part_of (f_saltire_part : Fn) : MS := sSeq (sIf (tV (e2 (vEq false) (eVar 0) (eC (.str [112, 97, 108, 101])))) (sRet (eBi bInt [e2 vGe (eVar 2) (e2 vDiv (eC c_WIDE) (eC (.int 2)))])) (sNil)) (sSeq (sIf (tV (e2 (vEq false) (eVar 0) (eC (.str [102, 101, 115, 115])))) (sRet (eBi bInt [e2 vGe (eVar 1) (e2 vDiv (eC c_HIGH) (eC (.int 2)))])) (sNil)) (sSeq (sIf (tV (e2 (vEq false) (eVar 0) (eC (.str [98, 101, 110, 100])))) (sRet (eBi bInt [e2 vGt (eVar 1) (eVar 2)])) (sNil)) (sSeq (sIf (tV (e2 (vEq false) (eVar 0) (eC (.str [115, 105, 110, 105, 115, 116, 101, 114])))) (sRet (eBi bInt [e2 vGt (eVar 1) (e2 vSub (e2 vSub (eC c_WIDE) (eC (.int 1))) (eVar 2))])) (sNil)) (sSeq (sIf (tV (e2 (vEq false) (eVar 0) (eC (.str [99, 104, 101, 118, 114, 111, 110])))) (sRet (eBi bInt [e2 vGe (e2 vSub (eVar 1) (eC (.int 4))) (e2 vDiv (eBi bAbs [e2 vAdd (e2 vSub (e2 vMul (eC (.int 2)) (eVar 2)) (eC c_WIDE)) (eC (.int 1))]) (eC (.int 2)))])) (sNil)) (sSeq (sIf (tV (e2 (vEq false) (eVar 0) (eC (.str [113, 117, 97, 114, 116, 101, 114, 108, 121])))) (sRet (e2 vAdd (e2 vMul (eC (.int 2)) (eBi bInt [e2 vGe (eVar 1) (e2 vDiv (eC c_HIGH) (eC (.int 2)))])) (eBi bInt [e2 vGe (eVar 2) (e2 vDiv (eC c_WIDE) (eC (.int 2)))]))) (sNil)) (sSeq (sIf (tV (e2 (vEq false) (eVar 0) (eC (.str [115, 97, 108, 116, 105, 114, 101])))) (sRet (eBi f_saltire_part [eVar 1, eVar 2])) (sNil)) (sSeq (sIf (tOr2 (tV (e2 vLt (eVar 3) (eC (.int 2)))) (tV (e2 vGt (eVar 3) (eC (.int 12))))) (sStuck) (sNil)) (sSeq (sIf (tV (e2 (vEq false) (eVar 0) (eC (.str [112, 97, 108, 121])))) (sRet (e2 vDiv (e2 vMul (eVar 2) (eVar 3)) (eC c_WIDE))) (sNil)) (sSeq (sIf (tV (e2 (vEq false) (eVar 0) (eC (.str [98, 97, 114, 114, 121])))) (sRet (e2 vDiv (e2 vMul (eVar 1) (eVar 3)) (eC c_HIGH))) (sNil)) (sSeq (sIf (tV (e2 (vEq false) (eVar 0) (eC (.str [98, 101, 110, 100, 121])))) (sRet (e2 vDiv (e2 vMul (e2 vSub (e2 vAdd (e2 vSub (eVar 1) (eVar 2)) (eC c_WIDE)) (eC (.int 1))) (eVar 3)) (e2 vSub (e2 vAdd (eC c_HIGH) (eC c_WIDE)) (eC (.int 1))))) (sNil)) (sSeq (sIf (tV (e2 (vEq false) (eVar 0) (eC (.str [99, 104, 101, 113, 117, 121])))) (sRet (e2 vMod (e2 vAdd (e2 vDiv (eVar 1) (eVar 3)) (e2 vDiv (eVar 2) (eVar 3))) (eC (.int 2)))) (sNil)) (sSeq (sIf (tV (e2 (vEq false) (eVar 0) (eC (.str [108, 111, 122, 101, 110, 103, 121])))) (sRet (e2 vMod (e2 vAdd (e2 vDiv (e2 vAdd (eVar 1) (eVar 2)) (eVar 3)) (e2 vDiv (e2 vAdd (e2 vSub (eVar 1) (eVar 2)) (eC c_WIDE)) (eVar 3))) (eC (.int 2)))) (sNil)) (sStuck)))))))))))))
abbrev m_part_of (f_saltire_part : Fn) : Fn := fnM 4 (b_part_of f_saltire_part)
theorem sc_part_of : FnScope ["division", "row", "column", "many"] ["division", "row", "column", "many"] (defScope s_part_of) := ⟨rfl, rfl, rfl, by decide +kernel, rfl, by decide +kernel, by decide +kernel⟩
theorem w_part_of (fx : Fx K mg Γ) {f_saltire_part : Fn} (h_saltire_part : Kn P w K mg base Γ k "saltire_part" 2 f_saltire_part) {f : Addr} {cdv : Value} {A : Around} {outer : List Env} {s : Shared} {H : Hp} {E : XK} (S : Sx (cxOf (L2.CX P w) P w K mg base ["division", "row", "column", "many"] "part_of" (defScope s_part_of) f cdv A outer s H E) Γ (WK E) k) : SimSs (cxOf (L2.CX P w) P w K mg base ["division", "row", "column", "many"] "part_of" (defScope s_part_of) f cdv A outer s H E) Γ (WK E) (defBody s_part_of) (b_part_of f_saltire_part) := by exact (sim_seq (sim_sif (sim_tcmp oc_eq (sim_tvar (pv 0)) (sim_str (s := [112, 97, 108, 101]))) (sim_s1 (sim_ret (sim_ty bc_int (by rfl) fx.n_int boot_int (sim_cons (sim_cmp oc_ge (sim_tvar (pv 2)) (sim_op oc_div (sim_glob fx.g_WIDE) sim_int)) sim_nil)))) sim_snil) (sim_seq (sim_sif (sim_tcmp oc_eq (sim_tvar (pv 0)) (sim_str (s := [102, 101, 115, 115]))) (sim_s1 (sim_ret (sim_ty bc_int (by rfl) fx.n_int boot_int (sim_cons (sim_cmp oc_ge (sim_tvar (pv 1)) (sim_op oc_div (sim_glob fx.g_HIGH) sim_int)) sim_nil)))) sim_snil) (sim_seq (sim_sif (sim_tcmp oc_eq (sim_tvar (pv 0)) (sim_str (s := [98, 101, 110, 100]))) (sim_s1 (sim_ret (sim_ty bc_int (by rfl) fx.n_int boot_int (sim_cons (sim_cmp oc_gt (sim_tvar (pv 1)) (sim_tvar (pv 2))) sim_nil)))) sim_snil) (sim_seq (sim_sif (sim_tcmp oc_eq (sim_tvar (pv 0)) (sim_str (s := [115, 105, 110, 105, 115, 116, 101, 114]))) (sim_s1 (sim_ret (sim_ty bc_int (by rfl) fx.n_int boot_int (sim_cons (sim_cmp oc_gt (sim_tvar (pv 1)) (sim_op oc_sub (sim_op oc_sub (sim_glob fx.g_WIDE) sim_int) (sim_tvar (pv 2)))) sim_nil)))) sim_snil) (sim_seq (sim_sif (sim_tcmp oc_eq (sim_tvar (pv 0)) (sim_str (s := [99, 104, 101, 118, 114, 111, 110]))) (sim_s1 (sim_ret (sim_ty bc_int (by rfl) fx.n_int boot_int (sim_cons (sim_cmp oc_ge (sim_op oc_sub (sim_tvar (pv 1)) sim_int) (sim_op oc_div (sim_bi bc_abs (by rfl) fx.n_abs boot_abs (sim_cons (sim_op oc_add (sim_op oc_sub (sim_op oc_mul sim_int (sim_tvar (pv 2))) (sim_glob fx.g_WIDE)) sim_int) sim_nil)) sim_int)) sim_nil)))) sim_snil) (sim_seq (sim_sif (sim_tcmp oc_eq (sim_tvar (pv 0)) (sim_str (s := [113, 117, 97, 114, 116, 101, 114, 108, 121]))) (sim_s1 (sim_ret (sim_op oc_add (sim_op oc_mul sim_int (sim_ty bc_int (by rfl) fx.n_int boot_int (sim_cons (sim_cmp oc_ge (sim_tvar (pv 1)) (sim_op oc_div (sim_glob fx.g_HIGH) sim_int)) sim_nil))) (sim_ty bc_int (by rfl) fx.n_int boot_int (sim_cons (sim_cmp oc_ge (sim_tvar (pv 2)) (sim_op oc_div (sim_glob fx.g_WIDE) sim_int)) sim_nil))))) sim_snil) (sim_seq (sim_sif (sim_tcmp oc_eq (sim_tvar (pv 0)) (sim_str (s := [115, 97, 108, 116, 105, 114, 101]))) (sim_s1 (sim_ret (sim_call h_saltire_part (Nat.le_refl _) (sim_cons (sim_tvar (pv 1)) (sim_cons (sim_tvar (pv 2)) sim_nil))))) sim_snil) (sim_seq (sim_sif (PW.pt (sw_or (sim_tcmp oc_lt (sim_tvar (pv 3)) sim_int) (sw_or1 (sim_tcmp oc_gt (sim_tvar (pv 3)) sim_int)))) (sim_s1 sim_sstuck) sim_snil) (sim_seq (sim_sif (sim_tcmp oc_eq (sim_tvar (pv 0)) (sim_str (s := [112, 97, 108, 121]))) (sim_s1 (sim_ret (sim_op oc_div (sim_op oc_mul (sim_tvar (pv 2)) (sim_tvar (pv 3))) (sim_glob fx.g_WIDE)))) sim_snil) (sim_seq (sim_sif (sim_tcmp oc_eq (sim_tvar (pv 0)) (sim_str (s := [98, 97, 114, 114, 121]))) (sim_s1 (sim_ret (sim_op oc_div (sim_op oc_mul (sim_tvar (pv 1)) (sim_tvar (pv 3))) (sim_glob fx.g_HIGH)))) sim_snil) (sim_seq (sim_sif (sim_tcmp oc_eq (sim_tvar (pv 0)) (sim_str (s := [98, 101, 110, 100, 121]))) (sim_s1 (sim_ret (sim_op oc_div (sim_op oc_mul (sim_op oc_sub (sim_op oc_add (sim_op oc_sub (sim_tvar (pv 1)) (sim_tvar (pv 2))) (sim_glob fx.g_WIDE)) sim_int) (sim_tvar (pv 3))) (sim_op oc_sub (sim_op oc_add (sim_glob fx.g_HIGH) (sim_glob fx.g_WIDE)) sim_int)))) sim_snil) (sim_seq (sim_sif (sim_tcmp oc_eq (sim_tvar (pv 0)) (sim_str (s := [99, 104, 101, 113, 117, 121]))) (sim_s1 (sim_ret (sim_op oc_mod (sim_op oc_add (sim_op oc_div (sim_tvar (pv 1)) (sim_tvar (pv 3))) (sim_op oc_div (sim_tvar (pv 2)) (sim_tvar (pv 3)))) sim_int))) sim_snil) (sim_seq (sim_sif (sim_tcmp oc_eq (sim_tvar (pv 0)) (sim_str (s := [108, 111, 122, 101, 110, 103, 121]))) (sim_s1 (sim_ret (sim_op oc_mod (sim_op oc_add (sim_op oc_div (sim_op oc_add (sim_tvar (pv 1)) (sim_tvar (pv 2))) (sim_tvar (pv 3))) (sim_op oc_div (sim_op oc_add (sim_op oc_sub (sim_tvar (pv 1)) (sim_tvar (pv 2))) (sim_glob fx.g_WIDE)) (sim_tvar (pv 3)))) sim_int))) sim_snil) (sim_s1 sim_sstuck))))))))))))))
theorem k_part_of (hK : Γ.K = K) (fx : Fx K mg Γ) {f_saltire_part : Fn} (h_saltire_part : Kn P w K mg base Γ k "saltire_part" 2 f_saltire_part) : Kn P w K mg base Γ (k + 1) "part_of" 4 (fnM 4 (b_part_of f_saltire_part)) := fx.d_part_of.kn sc_part_of hK rfl fun _ _ _ _ _ _ _ S => w_part_of fx h_saltire_part S
theorem o_part_of (hK : Γ.K = K) (fx : Fx K mg Γ) {f_saltire_part : Fn} (h_saltire_part : Kn P w K mg base Γ k "saltire_part" 2 f_saltire_part) {f : Addr} {fd : FuncData} (F : FunD K "part_of" "part_of" (defArgs s_part_of) (defBody s_part_of) (defScope s_part_of) [] [] f fd) : FnOk P w K mg base (L2.CX P w) (k + 1) f fd ["division", "row", "column", "many"] (spF Γ 4 (fnM 4 (b_part_of f_saltire_part))) := fn_okD F sc_part_of hK rfl fun _ _ _ _ _ _ S => w_part_of fx h_saltire_part S
def b_saltire_part : MS := sSeq (sPar 2 3 [e2 vLe (eVar 0) (eVar 1), e2 vLe (eVar 0) (e2 vSub (e2 vSub (eC c_WIDE) (eC (.int 1))) (eVar 1))]) (sSeq (sIf (tAnd2 (tV (eVar 2)) (tV (eVar 3))) (sRet (eC (.int 0))) (sNil)) (sSeq (sIf (tV (eVar 2)) (sRet (eC (.int 1))) (sNil)) (sRet (eIf (tV (eVar 3)) (eC (.int 2)) (eC (.int 3))))))
abbrev m_saltire_part : Fn := fnM 4 (b_saltire_part)
theorem sc_saltire_part : FnScope ["row", "column", "above", "over_right"] ["row", "column"] (defScope s_saltire_part) := ⟨rfl, rfl, rfl, by decide +kernel, rfl, by decide +kernel, by decide +kernel⟩
theorem w_saltire_part (fx : Fx K mg Γ)  {f : Addr} {cdv : Value} {A : Around} {outer : List Env} {s : Shared} {H : Hp} {E : XK} (S : Sx (cxOf (L2.CX P w) P w K mg base ["row", "column", "above", "over_right"] "saltire_part" (defScope s_saltire_part) f cdv A outer s H E) Γ (WK E) k) : SimSs (cxOf (L2.CX P w) P w K mg base ["row", "column", "above", "over_right"] "saltire_part" (defScope s_saltire_part) f cdv A outer s H E) Γ (WK E) (defBody s_saltire_part) (b_saltire_part) := by exact (sim_seq (sim_par (i := 2) (j := 3) (sim_cons (sim_cmp oc_le (sim_tvar (pv 0)) (sim_tvar (pv 1))) (sim_cons (sim_cmp oc_le (sim_tvar (pv 0)) (sim_op oc_sub (sim_op oc_sub (sim_glob fx.g_WIDE) sim_int) (sim_tvar (pv 1)))) sim_nil)) rfl rfl (by decide) rfl rfl (by kernel_rfl)) (sim_seq (sim_sif (PW.pt (sw_and (sim_tv (sim_tvar (pv 2))) (sw_and1 (sim_tv (sim_tvar (pv 3)))))) (sim_s1 (sim_ret sim_int)) sim_snil) (sim_seq (sim_sif (sim_tv (sim_tvar (pv 2))) (sim_s1 (sim_ret sim_int)) sim_snil) (sim_s1 (sim_ret (sim_if (sim_tv (sim_tvar (pv 3))) sim_int sim_int))))))
theorem k_saltire_part (hK : Γ.K = K) (fx : Fx K mg Γ)  : Kn P w K mg base Γ (k + 1) "saltire_part" 2 (fnM 4 (b_saltire_part)) := fx.d_saltire_part.kn sc_saltire_part hK rfl fun _ _ _ _ _ _ _ S => w_saltire_part fx S
theorem o_saltire_part (hK : Γ.K = K) (fx : Fx K mg Γ)  {f : Addr} {fd : FuncData} (F : FunD K "saltire_part" "saltire_part" (defArgs s_saltire_part) (defBody s_saltire_part) (defScope s_saltire_part) [] [] f fd) : FnOk P w K mg base (L2.CX P w) (k + 1) f fd ["row", "column"] (spF Γ 2 (fnM 4 (b_saltire_part))) := fn_okD F sc_saltire_part hK rfl fun _ _ _ _ _ _ S => w_saltire_part fx S
def b__law_dice : MS := sSeq (sIf (tV (eChain vLt vLt (e2 vSub (eC (.int 0)) (eC (.int 10))) (eVar 0) (eC (.int 10)))) (sRet (eLst [eBi bAbs [eVar 0], eC (.int 0), eC (.int 2)])) (sNil)) (sRet (eLst [eVar 0, e2 vAdd (eC (.int 1)) (e2 vMod (eBi bInt [eVar 0]) (eC (.int 1009))), eBi bInt [e2 vGe (eVar 0) (e2 vPow (eC (.int 10)) (eC (.int 18)))]]))
abbrev m__law_dice : Fn := fnM 1 (b__law_dice)
theorem sc__law_dice : FnScope ["cell"] ["cell"] (defScope s__law_dice) := ⟨rfl, rfl, rfl, by decide +kernel, rfl, by decide +kernel, by decide +kernel⟩
theorem w__law_dice (fx : Fx K mg Γ)  {f : Addr} {cdv : Value} {A : Around} {outer : List Env} {s : Shared} {H : Hp} {E : XK} (S : Sx (cxOf (L2.CX P w) P w K mg base ["cell"] "_law_dice" (defScope s__law_dice) f cdv A outer s H E) Γ (WK E) k) : SimSs (cxOf (L2.CX P w) P w K mg base ["cell"] "_law_dice" (defScope s__law_dice) f cdv A outer s H E) Γ (WK E) (defBody s__law_dice) (b__law_dice) := by exact (sim_seq (sim_sif (sim_tchain oc_lt oc_lt (sim_op oc_sub sim_int sim_int) (sim_tvar (pv 0)) sim_int) (sim_s1 (sim_ret (sim_lst (sim_cons (sim_bi bc_abs (by rfl) fx.n_abs boot_abs (sim_cons (sim_tvar (pv 0)) sim_nil)) (sim_cons sim_int (sim_cons sim_int sim_nil)))))) sim_snil) (sim_s1 (sim_ret (sim_lst (sim_cons (sim_tvar (pv 0)) (sim_cons (sim_op oc_add sim_int (sim_op oc_mod (sim_ty bc_int (by rfl) fx.n_int boot_int (sim_cons (sim_tvar (pv 0)) sim_nil)) sim_int)) (sim_cons (sim_ty bc_int (by rfl) fx.n_int boot_int (sim_cons (sim_cmp oc_ge (sim_tvar (pv 0)) (sim_op oc_pow sim_int sim_int)) sim_nil)) sim_nil)))))))
theorem k__law_dice (hK : Γ.K = K) (fx : Fx K mg Γ)  : Kn P w K mg base Γ (k + 1) "_law_dice" 1 (fnM 1 (b__law_dice)) := fx.d__law_dice.kn sc__law_dice hK rfl fun _ _ _ _ _ _ _ S => w__law_dice fx S
theorem o__law_dice (hK : Γ.K = K) (fx : Fx K mg Γ)  {f : Addr} {fd : FuncData} (F : FunD K "_law_dice" "_law_dice" (defArgs s__law_dice) (defBody s__law_dice) (defScope s__law_dice) [] [] f fd) : FnOk P w K mg base (L2.CX P w) (k + 1) f fd ["cell"] (spF Γ 1 (fnM 1 (b__law_dice))) := fn_okD F sc__law_dice hK rfl fun _ _ _ _ _ _ S => w__law_dice fx S
def b__law_roll : MS := sSeq (sIf (tOr2 (tV (e2 (vEq false) (e2 vIx (eVar 0) (eC (.int 2))) (eC (.int 2)))) (tAnd2 (tV (e2 (vEq false) (e2 vIx (eVar 0) (eC (.int 2))) (eC (.int 1)))) (tV (e2 vGt (e2 vIx (eVar 0) (eC (.int 0))) (eC (.int 0)))))) (sSeq (sAsg (gNm 2) (e2 vMod (eBi bInt [e2 vIx (eVar 0) (eC (.int 0))]) (eVar 1))) (sSeq (sSetL (e2 vDiv (e2 vIx (eVar 0) (eC (.int 0))) (eVar 1)) (eVar 0) (eC (.int 0))) (sRet (eVar 2)))) (sNil)) (sSeq (sSetL (eC (.int 0)) (eVar 0) (eC (.int 2))) (sSeq (sSetL (e2 vMod (eBi bInt [e2 vAdd (e2 vAdd (e2 vMul (e2 vIx (eVar 0) (eC (.int 0))) (eC (.int 48271))) (e2 vMul (e2 vIx (eVar 0) (eC (.int 1))) (eC (.int 69621)))) (eC (.int 11))]) (eC (.int 2147483647))) (eVar 0) (eC (.int 0))) (sSeq (sSetL (e2 vAdd (e2 vIx (eVar 0) (eC (.int 1))) (eC (.int 1))) (eVar 0) (eC (.int 1))) (sRet (e2 vMod (eBi bInt [e2 vAdd (e2 vDiv (e2 vIx (eVar 0) (eC (.int 0))) (eC (.int 7))) (e2 vIx (eVar 0) (eC (.int 0)))]) (eVar 1))))))
abbrev m__law_roll : Fn := fnM 3 (b__law_roll)
theorem sc__law_roll : FnScope ["dice", "many", "found"] ["dice", "many"] (defScope s__law_roll) := ⟨rfl, rfl, rfl, by decide +kernel, rfl, by decide +kernel, by decide +kernel⟩
theorem w__law_roll (fx : Fx K mg Γ)  {f : Addr} {cdv : Value} {A : Around} {outer : List Env} {s : Shared} {H : Hp} {E : XK} (S : Sx (cxOf (L2.CX P w) P w K mg base ["dice", "many", "found"] "_law_roll" (defScope s__law_roll) f cdv A outer s H E) Γ (WK E) k) : SimSs (cxOf (L2.CX P w) P w K mg base ["dice", "many", "found"] "_law_roll" (defScope s__law_roll) f cdv A outer s H E) Γ (WK E) (defBody s__law_roll) (b__law_roll) := by exact (sim_seq (sim_sif (PW.pt (sw_or (sim_tcmp oc_eq (sim_ix (sim_tvar (pv 0)) sim_int) sim_int) (sw_or1 (PW.pt (sw_and (sim_tcmp oc_eq (sim_ix (sim_tvar (pv 0)) sim_int) sim_int) (sw_and1 (sim_tcmp oc_gt (sim_ix (sim_tvar (pv 0)) sim_int) sim_int))))))) (sim_seq (sim_set (i := 2) (sim_op oc_mod (sim_ty bc_int (by rfl) fx.n_int boot_int (sim_cons (sim_ix (sim_tvar (pv 0)) sim_int) sim_nil)) (sim_tvar (pv 1))) rfl (by first | exact .inl rfl | exact .inr rfl)) (sim_seq (sim_setL (sim_op oc_div (sim_ix (sim_tvar (pv 0)) sim_int) (sim_tvar (pv 1))) (sim_tvar (pv 0)) sim_int) (sim_s1 (sim_ret (sim_tvar (pv 2)))))) sim_snil) (sim_seq (sim_setL sim_int (sim_tvar (pv 0)) sim_int) (sim_seq (sim_setL (sim_op oc_mod (sim_ty bc_int (by rfl) fx.n_int boot_int (sim_cons (sim_op oc_add (sim_op oc_add (sim_op oc_mul (sim_ix (sim_tvar (pv 0)) sim_int) sim_int) (sim_op oc_mul (sim_ix (sim_tvar (pv 0)) sim_int) sim_int)) sim_int) sim_nil)) sim_int) (sim_tvar (pv 0)) sim_int) (sim_seq (sim_setL (sim_op oc_add (sim_ix (sim_tvar (pv 0)) sim_int) sim_int) (sim_tvar (pv 0)) sim_int) (sim_s1 (sim_ret (sim_op oc_mod (sim_ty bc_int (by rfl) fx.n_int boot_int (sim_cons (sim_op oc_add (sim_op oc_div (sim_ix (sim_tvar (pv 0)) sim_int) sim_int) (sim_ix (sim_tvar (pv 0)) sim_int)) sim_nil)) (sim_tvar (pv 1)))))))))
theorem k__law_roll (hK : Γ.K = K) (fx : Fx K mg Γ)  : Kn P w K mg base Γ (k + 1) "_law_roll" 2 (fnM 3 (b__law_roll)) := fx.d__law_roll.kn sc__law_roll hK rfl fun _ _ _ _ _ _ _ S => w__law_roll fx S
theorem o__law_roll (hK : Γ.K = K) (fx : Fx K mg Γ)  {f : Addr} {fd : FuncData} (F : FunD K "_law_roll" "_law_roll" (defArgs s__law_roll) (defBody s__law_roll) (defScope s__law_roll) [] [] f fd) : FnOk P w K mg base (L2.CX P w) (k + 1) f fd ["dice", "many"] (spF Γ 2 (fnM 3 (b__law_roll))) := fn_okD F sc__law_roll hK rfl fun _ _ _ _ _ _ S => w__law_roll fx S
def b__law_rounds (f__law_dice : Fn) : MS := sSeq (sAsg (gNm 2) (eSl (eVar 0) none (some (eVar 1)))) (sSeq (sIf (tV (e2 (vEq false) (eVar 2) (eLst []))) (sAsg (gNm 2) (eLst [eC (.int 0)])) (sNil)) (sRet (eComp (mIt (eVar 2) itAny) (gNm 3) (tTrue) (eBi f__law_dice [eVar 3]) [3])))
abbrev m__law_rounds (f__law_dice : Fn) : Fn := fnM 4 (b__law_rounds f__law_dice)
theorem sc__law_rounds : FnScope ["script", "most", "cells", "cell"] ["script", "most"] (defScope s__law_rounds) := ⟨rfl, rfl, rfl, by decide +kernel, rfl, by decide +kernel, by decide +kernel⟩
theorem w__law_rounds (fx : Fx K mg Γ) {f__law_dice : Fn} (h__law_dice : Kn P w K mg base Γ k "_law_dice" 1 f__law_dice) {f : Addr} {cdv : Value} {A : Around} {outer : List Env} {s : Shared} {H : Hp} {E : XK} (S : Sx (cxOf (L2.CX P w) P w K mg base ["script", "most", "cells", "cell"] "_law_rounds" (defScope s__law_rounds) f cdv A outer s H E) Γ (WK E) k) : SimSs (cxOf (L2.CX P w) P w K mg base ["script", "most", "cells", "cell"] "_law_rounds" (defScope s__law_rounds) f cdv A outer s H E) Γ (WK E) (defBody s__law_rounds) (b__law_rounds f__law_dice) := by exact (sim_seq (sim_set (i := 2) (sim_sl (sim_tvar (pv 0)) sim_ono (sim_osome (sim_tvar (pv 1)))) rfl (by first | exact .inl rfl | exact .inr rfl)) (sim_seq (sim_sif (sim_tcmp oc_eq (sim_tvar (pv 2)) (sim_lst sim_nil)) (sim_s1 (sim_set (i := 2) (sim_lst (sim_cons sim_int sim_nil)) rfl (by first | exact .inl rfl | exact .inr rfl))) sim_snil) (sim_s1 (sim_ret (sim_comp (own := [("cell", 3)]) (blkOk_by (by kernel_rfl)) (sim_iany (sim_tvar (pv 2))) (fun _ _ _ _ _ => by exact (sim_gname (i := 3) rfl (by first | exact .inl rfl | exact .inr rfl))) (fun _ _ _ _ _ => by exact sim_tests0) (fun _ _ _ _ _ => by exact (sim_call h__law_dice (Nat.le_refl _) (sim_cons (sim_tvar (pv 3)) sim_nil))))))))
theorem k__law_rounds (hK : Γ.K = K) (fx : Fx K mg Γ) {f__law_dice : Fn} (h__law_dice : Kn P w K mg base Γ k "_law_dice" 1 f__law_dice) : Kn P w K mg base Γ (k + 1) "_law_rounds" 2 (fnM 4 (b__law_rounds f__law_dice)) := fx.d__law_rounds.kn sc__law_rounds hK rfl fun _ _ _ _ _ _ _ S => w__law_rounds fx h__law_dice S
theorem o__law_rounds (hK : Γ.K = K) (fx : Fx K mg Γ) {f__law_dice : Fn} (h__law_dice : Kn P w K mg base Γ k "_law_dice" 1 f__law_dice) {f : Addr} {fd : FuncData} (F : FunD K "_law_rounds" "_law_rounds" (defArgs s__law_rounds) (defBody s__law_rounds) (defScope s__law_rounds) [] [] f fd) : FnOk P w K mg base (L2.CX P w) (k + 1) f fd ["script", "most"] (spF Γ 2 (fnM 4 (b__law_rounds f__law_dice))) := fn_okD F sc__law_rounds hK rfl fun _ _ _ _ _ _ S => w__law_rounds fx h__law_dice S
def b__law_on (f__law_on f_within : Fn) : MS := sSeq (sIf (tV (e2 (vEq false) (eVar 0) (eC (.str [112, 97, 108, 101])))) (sRet (eChain vLe vLt (e2 vSub (eC (.int 6)) (eVar 3)) (eVar 2) (e2 vAdd (eC (.int 6)) (eVar 3)))) (sNil)) (sSeq (sIf (tV (e2 (vEq false) (eVar 0) (eC (.str [102, 101, 115, 115])))) (sRet (eChain vLe vLt (e2 vSub (eC (.int 7)) (eVar 3)) (eVar 1) (e2 vAdd (eC (.int 7)) (eVar 3)))) (sNil)) (sSeq (sIf (tV (e2 (vEq false) (eVar 0) (eC (.str [98, 101, 110, 100])))) (sRet (eChain vLt vLt (e2 vSub (eVar 1) (eVar 3)) (eVar 2) (e2 vAdd (eVar 1) (eVar 3)))) (sNil)) (sSeq (sIf (tV (e2 (vEq false) (eVar 0) (eC (.str [115, 105, 110, 105, 115, 116, 101, 114])))) (sRet (eChain vLt vLt (e2 vSub (e2 vSub (eC (.int 11)) (eVar 2)) (eVar 3)) (eVar 1) (e2 vAdd (e2 vSub (eC (.int 11)) (eVar 2)) (eVar 3)))) (sNil)) (sSeq (sIf (tV (e2 (vEq false) (eVar 0) (eC (.str [99, 114, 111, 115, 115])))) (sRet (eOr2 (eChain vLe vLt (e2 vSub (eC (.int 6)) (eVar 3)) (eVar 2) (e2 vAdd (eC (.int 6)) (eVar 3))) (eChain vLe vLt (e2 vSub (eC (.int 6)) (eVar 3)) (eVar 1) (e2 vAdd (eC (.int 6)) (eVar 3))))) (sNil)) (sSeq (sIf (tV (e2 (vEq false) (eVar 0) (eC (.str [115, 97, 108, 116, 105, 114, 101])))) (sRet (eOr2 (eBi f__law_on [eC (.str [98, 101, 110, 100]), eVar 1, eVar 2, eVar 3]) (eBi f__law_on [eC (.str [115, 105, 110, 105, 115, 116, 101, 114]), eVar 1, eVar 2, eVar 3]))) (sNil)) (sSeq (sIf (tV (e2 (vEq false) (eVar 0) (eC (.str [99, 104, 105, 101, 102])))) (sRet (e2 vLt (eVar 1) (eVar 3))) (sNil)) (sSeq (sIf (tV (e2 (vEq false) (eVar 0) (eC (.str [98, 97, 115, 101])))) (sRet (e2 vGt (eVar 1) (e2 vSub (eC (.int 13)) (e2 vMul (eC (.int 2)) (eVar 3))))) (sNil)) (sSeq (sIf (tV (e2 (vEq false) (eVar 0) (eC (.str [99, 97, 110, 116, 111, 110])))) (sRet (eAnd2 (e2 vLe (eVar 1) (eVar 3)) (e2 vLe (eVar 2) (eVar 3)))) (sNil)) (sSeq (sIf (tV (e2 (vEq false) (eVar 0) (eC (.str [99, 104, 101, 118, 114, 111, 110])))) (sRet (eChain vLe vLt (e2 vAdd (eC (.int 3)) (eBi bMax2 [e2 vSub (eVar 2) (eC (.int 6)), e2 vSub (eC (.int 5)) (eVar 2)])) (eVar 1) (e2 vAdd (e2 vAdd (eC (.int 3)) (eVar 3)) (eBi bMax2 [e2 vSub (eVar 2) (eC (.int 6)), e2 vSub (eC (.int 5)) (eVar 2)])))) (sNil)) (sSeq (sAsg (gNm 4) (eComp (mIt (evA [eC (.int 1), e2 vAdd (eVar 3) (eC (.int 1))]) itR2) (gNm 5) (tOr2 (tNot1 (tV (eBi f_within [e2 vAdd (eVar 1) (eVar 5), eVar 2]))) (tOr2 (tNot1 (tV (eBi f_within [e2 vSub (eVar 1) (eVar 5), eVar 2]))) (tOr2 (tNot1 (tV (eBi f_within [eVar 1, e2 vAdd (eVar 2) (eVar 5)]))) (tNot1 (tV (eBi f_within [eVar 1, e2 vSub (eVar 2) (eVar 5)])))))) (eVar 5) [5])) (sRet (e2 (vEq true) (eVar 4) (eLst [])))))))))))))
abbrev m__law_on (f__law_on f_within : Fn) : Fn := fnM 6 (b__law_on f__law_on f_within)
theorem sc__law_on : FnScope ["name", "row", "column", "wide", "steps", "k"] ["name", "row", "column", "wide"] (defScope s__law_on) := ⟨rfl, rfl, rfl, by decide +kernel, rfl, by decide +kernel, by decide +kernel⟩
theorem w__law_on (fx : Fx K mg Γ) {f__law_on f_within : Fn} (h__law_on : Kn P w K mg base Γ k "_law_on" 4 f__law_on) (h_within : Kn P w K mg base Γ k "within" 2 f_within) {f : Addr} {cdv : Value} {A : Around} {outer : List Env} {s : Shared} {H : Hp} {E : XK} (S : Sx (cxOf (L2.CX P w) P w K mg base ["name", "row", "column", "wide", "steps", "k"] "_law_on" (defScope s__law_on) f cdv A outer s H E) Γ (WK E) k) : SimSs (cxOf (L2.CX P w) P w K mg base ["name", "row", "column", "wide", "steps", "k"] "_law_on" (defScope s__law_on) f cdv A outer s H E) Γ (WK E) (defBody s__law_on) (b__law_on f__law_on f_within) := by exact (sim_seq (sim_sif (sim_tcmp oc_eq (sim_tvar (pv 0)) (sim_str (s := [112, 97, 108, 101]))) (sim_s1 (sim_ret (sim_chain oc_le oc_lt (sim_op oc_sub sim_int (sim_tvar (pv 3))) (sim_tvar (pv 2)) (sim_op oc_add sim_int (sim_tvar (pv 3)))))) sim_snil) (sim_seq (sim_sif (sim_tcmp oc_eq (sim_tvar (pv 0)) (sim_str (s := [102, 101, 115, 115]))) (sim_s1 (sim_ret (sim_chain oc_le oc_lt (sim_op oc_sub sim_int (sim_tvar (pv 3))) (sim_tvar (pv 1)) (sim_op oc_add sim_int (sim_tvar (pv 3)))))) sim_snil) (sim_seq (sim_sif (sim_tcmp oc_eq (sim_tvar (pv 0)) (sim_str (s := [98, 101, 110, 100]))) (sim_s1 (sim_ret (sim_chain oc_lt oc_lt (sim_op oc_sub (sim_tvar (pv 1)) (sim_tvar (pv 3))) (sim_tvar (pv 2)) (sim_op oc_add (sim_tvar (pv 1)) (sim_tvar (pv 3)))))) sim_snil) (sim_seq (sim_sif (sim_tcmp oc_eq (sim_tvar (pv 0)) (sim_str (s := [115, 105, 110, 105, 115, 116, 101, 114]))) (sim_s1 (sim_ret (sim_chain oc_lt oc_lt (sim_op oc_sub (sim_op oc_sub sim_int (sim_tvar (pv 2))) (sim_tvar (pv 3))) (sim_tvar (pv 1)) (sim_op oc_add (sim_op oc_sub sim_int (sim_tvar (pv 2))) (sim_tvar (pv 3)))))) sim_snil) (sim_seq (sim_sif (sim_tcmp oc_eq (sim_tvar (pv 0)) (sim_str (s := [99, 114, 111, 115, 115]))) (sim_s1 (sim_ret (sim_or (sim_chain oc_le oc_lt (sim_op oc_sub sim_int (sim_tvar (pv 3))) (sim_tvar (pv 2)) (sim_op oc_add sim_int (sim_tvar (pv 3)))) (sim_b1 (sim_chain oc_le oc_lt (sim_op oc_sub sim_int (sim_tvar (pv 3))) (sim_tvar (pv 1)) (sim_op oc_add sim_int (sim_tvar (pv 3)))))))) sim_snil) (sim_seq (sim_sif (sim_tcmp oc_eq (sim_tvar (pv 0)) (sim_str (s := [115, 97, 108, 116, 105, 114, 101]))) (sim_s1 (sim_ret (sim_or (sim_call h__law_on (Nat.le_refl _) (sim_cons (sim_str (s := [98, 101, 110, 100])) (sim_cons (sim_tvar (pv 1)) (sim_cons (sim_tvar (pv 2)) (sim_cons (sim_tvar (pv 3)) sim_nil))))) (sim_b1 (sim_call h__law_on (Nat.le_refl _) (sim_cons (sim_str (s := [115, 105, 110, 105, 115, 116, 101, 114])) (sim_cons (sim_tvar (pv 1)) (sim_cons (sim_tvar (pv 2)) (sim_cons (sim_tvar (pv 3)) sim_nil))))))))) sim_snil) (sim_seq (sim_sif (sim_tcmp oc_eq (sim_tvar (pv 0)) (sim_str (s := [99, 104, 105, 101, 102]))) (sim_s1 (sim_ret (sim_cmp oc_lt (sim_tvar (pv 1)) (sim_tvar (pv 3))))) sim_snil) (sim_seq (sim_sif (sim_tcmp oc_eq (sim_tvar (pv 0)) (sim_str (s := [98, 97, 115, 101]))) (sim_s1 (sim_ret (sim_cmp oc_gt (sim_tvar (pv 1)) (sim_op oc_sub sim_int (sim_op oc_mul sim_int (sim_tvar (pv 3))))))) sim_snil) (sim_seq (sim_sif (sim_tcmp oc_eq (sim_tvar (pv 0)) (sim_str (s := [99, 97, 110, 116, 111, 110]))) (sim_s1 (sim_ret (sim_and (sim_cmp oc_le (sim_tvar (pv 1)) (sim_tvar (pv 3))) (sim_b1 (sim_cmp oc_le (sim_tvar (pv 2)) (sim_tvar (pv 3))))))) sim_snil) (sim_seq (sim_sif (sim_tcmp oc_eq (sim_tvar (pv 0)) (sim_str (s := [99, 104, 101, 118, 114, 111, 110]))) (sim_s1 (sim_ret (sim_chain oc_le oc_lt (sim_op oc_add sim_int (sim_bi bc_max2 (by rfl) fx.n_max boot_max (sim_cons (sim_op oc_sub (sim_tvar (pv 2)) sim_int) (sim_cons (sim_op oc_sub sim_int (sim_tvar (pv 2))) sim_nil)))) (sim_tvar (pv 1)) (sim_op oc_add (sim_op oc_add sim_int (sim_tvar (pv 3))) (sim_bi bc_max2 (by rfl) fx.n_max boot_max (sim_cons (sim_op oc_sub (sim_tvar (pv 2)) sim_int) (sim_cons (sim_op oc_sub sim_int (sim_tvar (pv 2))) sim_nil))))))) sim_snil) (sim_seq (sim_setComp (i := 4) rfl rfl (by kernel_rfl) (own := [("k", 5)]) (blkOk_by (by kernel_rfl)) (sim_r2 (by rfl) fx.n_range (sim_cons sim_int (sim_cons (sim_op oc_add (sim_tvar (pv 3)) sim_int) sim_nil))) (fun _ _ _ _ _ => by exact (sim_gname (i := 5) rfl (by first | exact .inl rfl | exact .inr rfl))) (fun _ _ _ _ _ => by exact (sim_tests1 (PW.pt (sw_or (sim_tnot (sim_tv (sim_call h_within (Nat.le_refl _) (sim_cons (sim_op oc_add (sim_tvar (pv 1)) (sim_tvar (pv 5))) (sim_cons (sim_tvar (pv 2)) sim_nil))))) (sw_or (sim_tnot (sim_tv (sim_call h_within (Nat.le_refl _) (sim_cons (sim_op oc_sub (sim_tvar (pv 1)) (sim_tvar (pv 5))) (sim_cons (sim_tvar (pv 2)) sim_nil))))) (sw_or (sim_tnot (sim_tv (sim_call h_within (Nat.le_refl _) (sim_cons (sim_tvar (pv 1)) (sim_cons (sim_op oc_add (sim_tvar (pv 2)) (sim_tvar (pv 5))) sim_nil))))) (sw_or1 (sim_tnot (sim_tv (sim_call h_within (Nat.le_refl _) (sim_cons (sim_tvar (pv 1)) (sim_cons (sim_op oc_sub (sim_tvar (pv 2)) (sim_tvar (pv 5))) sim_nil)))))))))))) (fun _ _ _ _ _ => by exact (sim_tvar (pv 5)))) (sim_s1 (sim_ret (sim_cmp oc_ne (sim_tvar (pv 4)) (sim_lst sim_nil)))))))))))))))
theorem k__law_on (hK : Γ.K = K) (fx : Fx K mg Γ) {f__law_on f_within : Fn} (h__law_on : Kn P w K mg base Γ k "_law_on" 4 f__law_on) (h_within : Kn P w K mg base Γ k "within" 2 f_within) : Kn P w K mg base Γ (k + 1) "_law_on" 4 (fnM 6 (b__law_on f__law_on f_within)) := fx.d__law_on.kn sc__law_on hK rfl fun _ _ _ _ _ _ _ S => w__law_on fx h__law_on h_within S
theorem o__law_on (hK : Γ.K = K) (fx : Fx K mg Γ) {f__law_on f_within : Fn} (h__law_on : Kn P w K mg base Γ k "_law_on" 4 f__law_on) (h_within : Kn P w K mg base Γ k "within" 2 f_within) {f : Addr} {fd : FuncData} (F : FunD K "_law_on" "_law_on" (defArgs s__law_on) (defBody s__law_on) (defScope s__law_on) [] [] f fd) : FnOk P w K mg base (L2.CX P w) (k + 1) f fd ["name", "row", "column", "wide"] (spF Γ 4 (fnM 6 (b__law_on f__law_on f_within))) := fn_okD F sc__law_on hK rfl fun _ _ _ _ _ _ S => w__law_on fx h__law_on h_within S
def b__law_in : MS := sSeq (sIf (tV (e2 (vEq false) (eVar 0) (eC (.str [112, 97, 108, 101])))) (sRet (eBi bInt [e2 vGt (eVar 2) (eC (.int 5))])) (sNil)) (sSeq (sIf (tV (e2 (vEq false) (eVar 0) (eC (.str [102, 101, 115, 115])))) (sRet (eBi bInt [e2 vGt (eVar 1) (eC (.int 6))])) (sNil)) (sSeq (sIf (tV (e2 (vEq false) (eVar 0) (eC (.str [98, 101, 110, 100])))) (sRet (eBi bInt [e2 vGt (eVar 1) (eVar 2)])) (sNil)) (sSeq (sIf (tV (e2 (vEq false) (eVar 0) (eC (.str [115, 105, 110, 105, 115, 116, 101, 114])))) (sRet (eBi bInt [e2 vGt (e2 vAdd (eVar 1) (eVar 2)) (eC (.int 11))])) (sNil)) (sSeq (sIf (tV (e2 (vEq false) (eVar 0) (eC (.str [99, 104, 101, 118, 114, 111, 110])))) (sRet (eBi bInt [e2 vGt (eVar 1) (e2 vAdd (eC (.int 3)) (eBi bMax2 [e2 vSub (eVar 2) (eC (.int 6)), e2 vSub (eC (.int 5)) (eVar 2)]))])) (sNil)) (sSeq (sIf (tV (e2 (vEq false) (eVar 0) (eC (.str [113, 117, 97, 114, 116, 101, 114, 108, 121])))) (sRet (e2 vAdd (e2 vMul (eC (.int 2)) (eBi bInt [e2 vGt (eVar 1) (eC (.int 6))])) (eBi bInt [e2 vGt (eVar 2) (eC (.int 5))]))) (sNil)) (sRet (e2 vAdd (e2 vMul (eC (.int 2)) (eBi bInt [e2 vGt (eVar 1) (eVar 2)])) (eBi bInt [e2 vGt (e2 vAdd (eVar 1) (eVar 2)) (eC (.int 11))]))))))))
abbrev m__law_in : Fn := fnM 3 (b__law_in)
theorem sc__law_in : FnScope ["division", "row", "column"] ["division", "row", "column"] (defScope s__law_in) := ⟨rfl, rfl, rfl, by decide +kernel, rfl, by decide +kernel, by decide +kernel⟩
theorem w__law_in (fx : Fx K mg Γ)  {f : Addr} {cdv : Value} {A : Around} {outer : List Env} {s : Shared} {H : Hp} {E : XK} (S : Sx (cxOf (L2.CX P w) P w K mg base ["division", "row", "column"] "_law_in" (defScope s__law_in) f cdv A outer s H E) Γ (WK E) k) : SimSs (cxOf (L2.CX P w) P w K mg base ["division", "row", "column"] "_law_in" (defScope s__law_in) f cdv A outer s H E) Γ (WK E) (defBody s__law_in) (b__law_in) := by exact (sim_seq (sim_sif (sim_tcmp oc_eq (sim_tvar (pv 0)) (sim_str (s := [112, 97, 108, 101]))) (sim_s1 (sim_ret (sim_ty bc_int (by rfl) fx.n_int boot_int (sim_cons (sim_cmp oc_gt (sim_tvar (pv 2)) sim_int) sim_nil)))) sim_snil) (sim_seq (sim_sif (sim_tcmp oc_eq (sim_tvar (pv 0)) (sim_str (s := [102, 101, 115, 115]))) (sim_s1 (sim_ret (sim_ty bc_int (by rfl) fx.n_int boot_int (sim_cons (sim_cmp oc_gt (sim_tvar (pv 1)) sim_int) sim_nil)))) sim_snil) (sim_seq (sim_sif (sim_tcmp oc_eq (sim_tvar (pv 0)) (sim_str (s := [98, 101, 110, 100]))) (sim_s1 (sim_ret (sim_ty bc_int (by rfl) fx.n_int boot_int (sim_cons (sim_cmp oc_gt (sim_tvar (pv 1)) (sim_tvar (pv 2))) sim_nil)))) sim_snil) (sim_seq (sim_sif (sim_tcmp oc_eq (sim_tvar (pv 0)) (sim_str (s := [115, 105, 110, 105, 115, 116, 101, 114]))) (sim_s1 (sim_ret (sim_ty bc_int (by rfl) fx.n_int boot_int (sim_cons (sim_cmp oc_gt (sim_op oc_add (sim_tvar (pv 1)) (sim_tvar (pv 2))) sim_int) sim_nil)))) sim_snil) (sim_seq (sim_sif (sim_tcmp oc_eq (sim_tvar (pv 0)) (sim_str (s := [99, 104, 101, 118, 114, 111, 110]))) (sim_s1 (sim_ret (sim_ty bc_int (by rfl) fx.n_int boot_int (sim_cons (sim_cmp oc_gt (sim_tvar (pv 1)) (sim_op oc_add sim_int (sim_bi bc_max2 (by rfl) fx.n_max boot_max (sim_cons (sim_op oc_sub (sim_tvar (pv 2)) sim_int) (sim_cons (sim_op oc_sub sim_int (sim_tvar (pv 2))) sim_nil))))) sim_nil)))) sim_snil) (sim_seq (sim_sif (sim_tcmp oc_eq (sim_tvar (pv 0)) (sim_str (s := [113, 117, 97, 114, 116, 101, 114, 108, 121]))) (sim_s1 (sim_ret (sim_op oc_add (sim_op oc_mul sim_int (sim_ty bc_int (by rfl) fx.n_int boot_int (sim_cons (sim_cmp oc_gt (sim_tvar (pv 1)) sim_int) sim_nil))) (sim_ty bc_int (by rfl) fx.n_int boot_int (sim_cons (sim_cmp oc_gt (sim_tvar (pv 2)) sim_int) sim_nil))))) sim_snil) (sim_s1 (sim_ret (sim_op oc_add (sim_op oc_mul sim_int (sim_ty bc_int (by rfl) fx.n_int boot_int (sim_cons (sim_cmp oc_gt (sim_tvar (pv 1)) (sim_tvar (pv 2))) sim_nil))) (sim_ty bc_int (by rfl) fx.n_int boot_int (sim_cons (sim_cmp oc_gt (sim_op oc_add (sim_tvar (pv 1)) (sim_tvar (pv 2))) sim_int) sim_nil)))))))))))
theorem k__law_in (hK : Γ.K = K) (fx : Fx K mg Γ)  : Kn P w K mg base Γ (k + 1) "_law_in" 3 (fnM 3 (b__law_in)) := fx.d__law_in.kn sc__law_in hK rfl fun _ _ _ _ _ _ _ S => w__law_in fx S
theorem o__law_in (hK : Γ.K = K) (fx : Fx K mg Γ)  {f : Addr} {fd : FuncData} (F : FunD K "_law_in" "_law_in" (defArgs s__law_in) (defBody s__law_in) (defScope s__law_in) [] [] f fd) : FnOk P w K mg base (L2.CX P w) (k + 1) f fd ["division", "row", "column"] (spF Γ 3 (fnM 3 (b__law_in))) := fn_okD F sc__law_in hK rfl fun _ _ _ _ _ _ S => w__law_in fx S
def b_law (f__law_rounds f__law_roll f_squares f_on_band f__law_on f_part_of f__law_in : Fn) : MS := sSeq (sFor (mIt (eBi f__law_rounds [eVar 0, eC (.int 1)]) itAny) (gNm 1) (sSeq (sPar 2 3 [e2 vIx (eC c_NAMES) (eBi f__law_roll [eVar 1, eC (.int 11)]), e2 vAdd (eC (.int 1)) (eBi f__law_roll [eVar 1, eC (.int 3)])]) (sSeq (sAsg (gNm 4) (e2 vIx (eLst [eC (.str [112, 97, 108, 101]), eC (.str [102, 101, 115, 115]), eC (.str [98, 101, 110, 100]), eC (.str [115, 105, 110, 105, 115, 116, 101, 114]), eC (.str [99, 104, 101, 118, 114, 111, 110]), eC (.str [113, 117, 97, 114, 116, 101, 114, 108, 121]), eC (.str [115, 97, 108, 116, 105, 114, 101])]) (eBi f__law_roll [eVar 1, eC (.int 7)]))) (sFor (mIt (eCall0 f_squares) itAny) (gTp 2 (gsCons (gNm 5) (gsCons (gNm 6) (gsNil)))) (sSeq (sIf (tV (e2 (vEq true) (eBi f_on_band [eVar 2, eVar 5, eVar 6, eVar 3]) (eBi f__law_on [eVar 2, eVar 5, eVar 6, eVar 3]))) (sRet (eC (.bl false))) (sNil)) (sIf (tV (e2 (vEq true) (eBi f_part_of [eVar 4, eVar 5, eVar 6, eC (.int 0)]) (eBi f__law_in [eVar 4, eVar 5, eVar 6]))) (sRet (eC (.bl false))) (sNil))))))) (sRet (eC (.bl true)))
abbrev m_law (f__law_rounds f__law_roll f_squares f_on_band f__law_on f_part_of f__law_in : Fn) : Fn := fnM 7 (b_law f__law_rounds f__law_roll f_squares f_on_band f__law_on f_part_of f__law_in)
theorem sc_law : FnScope ["script", "dice", "name", "wide", "division", "row", "column"] ["script"] (defScope s_law) := ⟨rfl, rfl, rfl, by decide +kernel, rfl, by decide +kernel, by decide +kernel⟩
theorem w_law (fx : Fx K mg Γ) {f__law_rounds f__law_roll f_squares f_on_band f__law_on f_part_of f__law_in : Fn} (h__law_rounds : Kn P w K mg base Γ k "_law_rounds" 2 f__law_rounds) (h__law_roll : Kn P w K mg base Γ k "_law_roll" 2 f__law_roll) (h_squares : Kn P w K mg base Γ k "squares" 0 f_squares) (h_on_band : Kn P w K mg base Γ k "on_band" 4 f_on_band) (h__law_on : Kn P w K mg base Γ k "_law_on" 4 f__law_on) (h_part_of : Kn P w K mg base Γ k "part_of" 4 f_part_of) (h__law_in : Kn P w K mg base Γ k "_law_in" 3 f__law_in) {f : Addr} {cdv : Value} {A : Around} {outer : List Env} {s : Shared} {H : Hp} {E : XK} (S : Sx (cxOf (L2.CX P w) P w K mg base ["script", "dice", "name", "wide", "division", "row", "column"] "law" (defScope s_law) f cdv A outer s H E) Γ (WK E) k) : SimSs (cxOf (L2.CX P w) P w K mg base ["script", "dice", "name", "wide", "division", "row", "column"] "law" (defScope s_law) f cdv A outer s H E) Γ (WK E) (defBody s_law) (b_law f__law_rounds f__law_roll f_squares f_on_band f__law_on f_part_of f__law_in) := by exact (sim_seq (sim_for (passes_of rfl) (sim_iany (sim_call h__law_rounds (Nat.le_refl _) (sim_cons (sim_tvar (pv 0)) (sim_cons sim_int sim_nil)))) (sim_gname (i := 1) rfl (by first | exact .inl rfl | exact .inr rfl)) (sim_seq (sim_par (i := 2) (j := 3) (sim_cons (sim_ix (sim_glob fx.g_NAMES) (sim_call h__law_roll (Nat.le_refl _) (sim_cons (sim_tvar (pv 1)) (sim_cons sim_int sim_nil)))) (sim_cons (sim_op oc_add sim_int (sim_call h__law_roll (Nat.le_refl _) (sim_cons (sim_tvar (pv 1)) (sim_cons sim_int sim_nil)))) sim_nil)) rfl rfl (by decide) rfl rfl (by kernel_rfl)) (sim_seq (sim_set (i := 4) (sim_ix (sim_lst (sim_cons (sim_str (s := [112, 97, 108, 101])) (sim_cons (sim_str (s := [102, 101, 115, 115])) (sim_cons (sim_str (s := [98, 101, 110, 100])) (sim_cons (sim_str (s := [115, 105, 110, 105, 115, 116, 101, 114])) (sim_cons (sim_str (s := [99, 104, 101, 118, 114, 111, 110])) (sim_cons (sim_str (s := [113, 117, 97, 114, 116, 101, 114, 108, 121])) (sim_cons (sim_str (s := [115, 97, 108, 116, 105, 114, 101])) sim_nil)))))))) (sim_call h__law_roll (Nat.le_refl _) (sim_cons (sim_tvar (pv 1)) (sim_cons sim_int sim_nil)))) rfl (by first | exact .inl rfl | exact .inr rfl)) (sim_s1 (sim_for (passes_of rfl) (sim_iany (sim_call0 h_squares (Nat.le_refl _))) (sim_gtup (sim_gscons (sim_gname (i := 5) rfl (by first | exact .inl rfl | exact .inr rfl)) (sim_gscons (sim_gname (i := 6) rfl (by first | exact .inl rfl | exact .inr rfl)) sim_gsnil))) (sim_seq (sim_sif (sim_tcmp oc_ne (sim_call h_on_band (Nat.le_refl _) (sim_cons (sim_tvar (pv 2)) (sim_cons (sim_tvar (pv 5)) (sim_cons (sim_tvar (pv 6)) (sim_cons (sim_tvar (pv 3)) sim_nil))))) (sim_call h__law_on (Nat.le_refl _) (sim_cons (sim_tvar (pv 2)) (sim_cons (sim_tvar (pv 5)) (sim_cons (sim_tvar (pv 6)) (sim_cons (sim_tvar (pv 3)) sim_nil)))))) (sim_s1 (sim_ret sim_bl)) sim_snil) (sim_s1 (sim_sif (sim_tcmp oc_ne (sim_call h_part_of (Nat.le_refl _) (sim_cons (sim_tvar (pv 4)) (sim_cons (sim_tvar (pv 5)) (sim_cons (sim_tvar (pv 6)) (sim_cons sim_int sim_nil))))) (sim_call h__law_in (Nat.le_refl _) (sim_cons (sim_tvar (pv 4)) (sim_cons (sim_tvar (pv 5)) (sim_cons (sim_tvar (pv 6)) sim_nil))))) (sim_s1 (sim_ret sim_bl)) sim_snil)))))))) (sim_s1 (sim_ret sim_bl)))
theorem k_law (hK : Γ.K = K) (fx : Fx K mg Γ) {f__law_rounds f__law_roll f_squares f_on_band f__law_on f_part_of f__law_in : Fn} (h__law_rounds : Kn P w K mg base Γ k "_law_rounds" 2 f__law_rounds) (h__law_roll : Kn P w K mg base Γ k "_law_roll" 2 f__law_roll) (h_squares : Kn P w K mg base Γ k "squares" 0 f_squares) (h_on_band : Kn P w K mg base Γ k "on_band" 4 f_on_band) (h__law_on : Kn P w K mg base Γ k "_law_on" 4 f__law_on) (h_part_of : Kn P w K mg base Γ k "part_of" 4 f_part_of) (h__law_in : Kn P w K mg base Γ k "_law_in" 3 f__law_in) : Kn P w K mg base Γ (k + 1) "law" 1 (fnM 7 (b_law f__law_rounds f__law_roll f_squares f_on_band f__law_on f_part_of f__law_in)) := fx.d_law.kn sc_law hK rfl fun _ _ _ _ _ _ _ S => w_law fx h__law_rounds h__law_roll h_squares h_on_band h__law_on h_part_of h__law_in S
theorem o_law (hK : Γ.K = K) (fx : Fx K mg Γ) {f__law_rounds f__law_roll f_squares f_on_band f__law_on f_part_of f__law_in : Fn} (h__law_rounds : Kn P w K mg base Γ k "_law_rounds" 2 f__law_rounds) (h__law_roll : Kn P w K mg base Γ k "_law_roll" 2 f__law_roll) (h_squares : Kn P w K mg base Γ k "squares" 0 f_squares) (h_on_band : Kn P w K mg base Γ k "on_band" 4 f_on_band) (h__law_on : Kn P w K mg base Γ k "_law_on" 4 f__law_on) (h_part_of : Kn P w K mg base Γ k "part_of" 4 f_part_of) (h__law_in : Kn P w K mg base Γ k "_law_in" 3 f__law_in) {f : Addr} {fd : FuncData} (F : FunD K "law" "law" (defArgs s_law) (defBody s_law) (defScope s_law) [] [] f fd) : FnOk P w K mg base (L2.CX P w) (k + 1) f fd ["script"] (spF Γ 1 (fnM 7 (b_law f__law_rounds f__law_roll f_squares f_on_band f__law_on f_part_of f__law_in))) := fn_okD F sc_law hK rfl fun _ _ _ _ _ _ S => w_law fx h__law_rounds h__law_roll h_squares h_on_band h__law_on h_part_of h__law_in S
end
/-! ### the head's data -/
def dd_within : He.DefD := ⟨("within", none), "within", "within", defArgs s_within, defBody s_within, defScope s_within, [], []⟩
def dd_squares : He.DefD := ⟨("squares", none), "squares", "squares", defArgs s_squares, defBody s_squares, defScope s_squares, [], []⟩
def dd_on_band : He.DefD := ⟨("on_band", none), "on_band", "on_band", defArgs s_on_band, defBody s_on_band, defScope s_on_band, [], []⟩
def dd_is_border : He.DefD := ⟨("is_border", none), "is_border", "is_border", defArgs s_is_border, defBody s_is_border, defScope s_is_border, [], []⟩
def dd_part_of : He.DefD := ⟨("part_of", none), "part_of", "part_of", defArgs s_part_of, defBody s_part_of, defScope s_part_of, [], []⟩
def dd_saltire_part : He.DefD := ⟨("saltire_part", none), "saltire_part", "saltire_part", defArgs s_saltire_part, defBody s_saltire_part, defScope s_saltire_part, [], []⟩
def dd__law_dice : He.DefD := ⟨("_law_dice", none), "_law_dice", "_law_dice", defArgs s__law_dice, defBody s__law_dice, defScope s__law_dice, [], []⟩
def dd__law_roll : He.DefD := ⟨("_law_roll", none), "_law_roll", "_law_roll", defArgs s__law_roll, defBody s__law_roll, defScope s__law_roll, [], []⟩
def dd__law_rounds : He.DefD := ⟨("_law_rounds", none), "_law_rounds", "_law_rounds", defArgs s__law_rounds, defBody s__law_rounds, defScope s__law_rounds, [], []⟩
def dd__law_on : He.DefD := ⟨("_law_on", none), "_law_on", "_law_on", defArgs s__law_on, defBody s__law_on, defScope s__law_on, [], []⟩
def dd__law_in : He.DefD := ⟨("_law_in", none), "_law_in", "_law_in", defArgs s__law_in, defBody s__law_in, defScope s__law_in, [], []⟩
def dd_law : He.DefD := ⟨("law", none), "law", "law", defArgs s_law, defBody s_law, defScope s_law, [], []⟩
def hfn : List He.DefD := [dd_within, dd_squares, dd_on_band, dd_is_border, dd_part_of, dd_saltire_part, dd__law_dice, dd__law_roll, dd__law_rounds, dd__law_on, dd__law_in, dd_law]
def hfa : List He.Fa := [.glo "within", .glo "squares", .glo "on_band", .glo "is_border", .glo "part_of", .glo "saltire_part", .glo "_law_dice", .glo "_law_roll", .glo "_law_rounds", .glo "_law_on", .glo "_law_in", .glo "law", .free "abs", .free "enumerate", .free "int", .free "max", .free "range", .free "tuple"]
def hex (K : PySem.W.Frag) : Bool := gvB K "HIGH" c_HIGH && gvB K "NAMES" c_NAMES && gvB K "SPANS" c_SPANS && gvB K "WIDE" c_WIDE
theorem facts {K : PySem.W.Frag} {h : Heap} {mg : Str → Option Value} {Γ : Gx} (hK : Γ.K = K) (X : K.In h) (G : h.Ns mainGlobals mg) (c : He.SaysD hfa hfn K) (e : hex K = true) : Fx K mg Γ := by
  have d : ∀ (i : Nat) (dd : He.DefD) (ps : List Str), hfn[i]? = some dd → hfa[i]? = some (.glo dd.name) → dd.at_ = (dd.name, none) → dd.qual = dd.name → dd.dfl = [] → dd.kwd = [] →
      (∀ (kV doc pm : Value) (an : Option Addr) (cdv ct : Value) (us : List Value), us.length = ps.length → bindArgs (PySem.W.fnOf dd.name dd.name dd.params dd.body dd.scope .none kV doc pm an cdv ct) ⟨us, []⟩ = pure (ps.zip us)) →
      DefK K mg dd.name dd.params dd.body dd.scope ps := fun i dd ps e1 e2 e3 e4 e5 e6 hb => defK_of X G (c.def_ i e1) (c.fact i e2) e3 e4 e5 e6 hb
  unfold hex at e
  simp only [Bool.and_eq_true] at e
  exact ⟨gvB_ok hK X G e.1.1.1,
    gvB_ok hK X G e.1.1.2,
    gvB_ok hK X G e.1.2,
    gvB_ok hK X G e.2,
    He.free_ok X G (c.fact 12 (f := .free "abs") rfl),
    He.free_ok X G (c.fact 13 (f := .free "enumerate") rfl),
    He.free_ok X G (c.fact 14 (f := .free "int") rfl),
    He.free_ok X G (c.fact 15 (f := .free "max") rfl),
    He.free_ok X G (c.fact 16 (f := .free "range") rfl),
    He.free_ok X G (c.fact 17 (f := .free "tuple") rfl),
    d 0 dd_within ["row", "column"] rfl rfl rfl rfl rfl rfl (fun _ _ _ _ _ _ us hl => match us, hl with | [_, _], _ => by rfl),
    d 1 dd_squares [] rfl rfl rfl rfl rfl rfl (fun _ _ _ _ _ _ us hl => match us, hl with | [], _ => by rfl),
    d 2 dd_on_band ["name", "row", "column", "width"] rfl rfl rfl rfl rfl rfl (fun _ _ _ _ _ _ us hl => match us, hl with | [_, _, _, _], _ => by rfl),
    d 3 dd_is_border ["row", "column", "width"] rfl rfl rfl rfl rfl rfl (fun _ _ _ _ _ _ us hl => match us, hl with | [_, _, _], _ => by rfl),
    d 4 dd_part_of ["division", "row", "column", "many"] rfl rfl rfl rfl rfl rfl (fun _ _ _ _ _ _ us hl => match us, hl with | [_, _, _, _], _ => by rfl),
    d 5 dd_saltire_part ["row", "column"] rfl rfl rfl rfl rfl rfl (fun _ _ _ _ _ _ us hl => match us, hl with | [_, _], _ => by rfl),
    d 6 dd__law_dice ["cell"] rfl rfl rfl rfl rfl rfl (fun _ _ _ _ _ _ us hl => match us, hl with | [_], _ => by rfl),
    d 7 dd__law_roll ["dice", "many"] rfl rfl rfl rfl rfl rfl (fun _ _ _ _ _ _ us hl => match us, hl with | [_, _], _ => by rfl),
    d 8 dd__law_rounds ["script", "most"] rfl rfl rfl rfl rfl rfl (fun _ _ _ _ _ _ us hl => match us, hl with | [_, _], _ => by rfl),
    d 9 dd__law_on ["name", "row", "column", "wide"] rfl rfl rfl rfl rfl rfl (fun _ _ _ _ _ _ us hl => match us, hl with | [_, _, _, _], _ => by rfl),
    d 10 dd__law_in ["division", "row", "column"] rfl rfl rfl rfl rfl rfl (fun _ _ _ _ _ _ us hl => match us, hl with | [_, _, _], _ => by rfl),
    d 11 dd_law ["script"] rfl rfl rfl rfl rfl rfl (fun _ _ _ _ _ _ us hl => match us, hl with | [_], _ => by rfl)⟩
/-! ### the functions -/
def F_within : Fn := loc m_within
def F_squares : Fn := loc m_squares
def F_border : Fn := loc (m_is_border F_within)
def F_on0 : Fn := fun _ _ => .stuck
def F_on1 : Fn := loc (m_on_band F_on0 F_border)
def F_on : Fn := m_on_band F_on1 F_border
def F_sal : Fn := loc m_saltire_part
def F_part : Fn := m_part_of F_sal
def F_lon1 : Fn := loc (m__law_on F_on0 F_within)
def F_lon : Fn := m__law_on F_lon1 F_within
def F_lin : Fn := m__law_in
def F_rounds : Fn := fnM 4 (mRounds gDice)
def F_law : Fn := m_law F_rounds gRoll F_squares (loc F_on) (loc F_lon) (loc F_part) (loc F_lin)
section
variable {P : Program} {w : World} {K : PySem.W.Frag} {mg : Str → Option Value} {base : Heap} {Γ : Gx}
theorem ok_law (fx : Fx K mg Γ) (hK : Γ.K = K) {f : Addr} {fd : FuncData} (F : FunD K "law" "law" (defArgs s_law) (defBody s_law) (defScope s_law) [] [] f fd) : FnOk P w K mg base (L2.CX P w) 5 f fd ["script"] (spF Γ 1 F_law) := by
  have hw : Kn P w K mg base Γ 1 "within" 2 F_within := (k_within (k := 0) hK fx).loc
  have hs : Kn P w K mg base Γ 1 "squares" 0 F_squares := (k_squares (k := 0) hK fx).loc
  have hb : Kn P w K mg base Γ 2 "is_border" 3 F_border := (k_is_border (k := 1) hK fx hw).loc
  have o0 : Kn P w K mg base Γ 0 "on_band" 4 F_on0 := fx.d_on_band.stuck
  have o1 : Kn P w K mg base Γ 3 "on_band" 4 F_on1 := (k_on_band (k := 2) hK fx (o0.mono (by decide)) hb).loc
  have o2 : Kn P w K mg base Γ 4 "on_band" 4 (loc F_on) := (k_on_band (k := 3) hK fx o1 (hb.mono (by decide))).loc
  have hsal : Kn P w K mg base Γ 1 "saltire_part" 2 F_sal := (k_saltire_part (k := 0) hK fx).loc
  have hp : Kn P w K mg base Γ 2 "part_of" 4 (loc F_part) := (k_part_of (k := 1) hK fx hsal).loc
  have l0 : Kn P w K mg base Γ 0 "_law_on" 4 F_on0 := fx.d__law_on.stuck
  have l1 : Kn P w K mg base Γ 2 "_law_on" 4 F_lon1 := (k__law_on (k := 1) hK fx (l0.mono (by decide)) hw).loc
  have l2 : Kn P w K mg base Γ 3 "_law_on" 4 (loc F_lon) := (k__law_on (k := 2) hK fx l1 (hw.mono (by decide))).loc
  have li : Kn P w K mg base Γ 1 "_law_in" 3 (loc F_lin) := (k__law_in (k := 0) hK fx).loc
  have hd : Kn P w K mg base Γ 1 "_law_dice" 1 gDice := (k__law_dice (k := 0) hK fx).imp dice_is
  have hr : Kn P w K mg base Γ 1 "_law_roll" 2 gRoll := (k__law_roll (k := 0) hK fx).imp roll_is
  have hro : Kn P w K mg base Γ 2 "_law_rounds" 2 F_rounds := k__law_rounds (k := 1) hK fx hd
  exact o_law (k := 4) hK fx (hro.mono (by decide)) (hr.mono (by decide)) (hs.mono (by decide)) o2 (l2.mono (by decide)) (hp.mono (by decide)) (li.mono (by decide)) F
end
/-! ### the plain law -/
def nmL : List (List Nat) := [[112, 97, 108, 101], [102, 101, 115, 115], [98, 101, 110, 100], [115, 105, 110, 105, 115, 116, 101, 114], [99, 104, 101, 118, 114, 111, 110], [99, 114, 111, 115, 115], [115, 97, 108, 116, 105, 114, 101], [99, 104, 105, 101, 102], [98, 97, 115, 101], [98, 111, 114, 100, 101, 114], [99, 97, 110, 116, 111, 110]]
def dvL : List (List Nat) := [[112, 97, 108, 101], [102, 101, 115, 115], [98, 101, 110, 100], [115, 105, 110, 105, 115, 116, 101, 114], [99, 104, 101, 118, 114, 111, 110], [113, 117, 97, 114, 116, 101, 114, 108, 121], [115, 97, 108, 116, 105, 114, 101]]
def spans : List (Int × Nat) := [(0, 12), (0, 12), (0, 12), (0, 12), (0, 12), (0, 12), (0, 12), (0, 12), (1, 10), (2, 8), (3, 6), (4, 4), (5, 2), (5, 2)]
def rowsF : Int → List (Int × Nat) → List (Int × Int)
  | _, [] => []
  | j, (lo, n) :: r => (List.range n).map (fun (k : Nat) => (j, lo + (k : Int))) ++ rowsF (j + 1) r
def sqs : List (Int × Int) := rowsF 0 spans
def pt (p : Int × Int) : CV := .tup [.int p.1, .int p.2]
theorem squares_is (hp : Hc) : F_squares [] hp = .ok (.tup (sqs.map pt)) hp := by kernel_rfl
def bandOk (n : List Nat) (w : Int) (p : Int × Int) : Bool := sameR (F_on [.str n, .int p.1, .int p.2, .int w] ⟨0, []⟩) (F_lon [.str n, .int p.1, .int p.2, .int w] ⟨0, []⟩)
def partOk (n : List Nat) (p : Int × Int) : Bool := sameR (F_part [.str n, .int p.1, .int p.2, .int 0] ⟨0, []⟩) (F_lin [.str n, .int p.1, .int p.2] ⟨0, []⟩)
def nmAt (i : Nat) : List Nat := nmL.getD i []
theorem band0 : ([1, 2, 3].all fun w => sqs.all (bandOk (nmAt 0) w)) = true := by decide +kernel
theorem band1 : ([1, 2, 3].all fun w => sqs.all (bandOk (nmAt 1) w)) = true := by decide +kernel
theorem band2 : ([1, 2, 3].all fun w => sqs.all (bandOk (nmAt 2) w)) = true := by decide +kernel
theorem band3 : ([1, 2, 3].all fun w => sqs.all (bandOk (nmAt 3) w)) = true := by decide +kernel
theorem band4 : ([1, 2, 3].all fun w => sqs.all (bandOk (nmAt 4) w)) = true := by decide +kernel
theorem band5 : ([1, 2, 3].all fun w => sqs.all (bandOk (nmAt 5) w)) = true := by decide +kernel
theorem band6 : ([1, 2, 3].all fun w => sqs.all (bandOk (nmAt 6) w)) = true := by decide +kernel
theorem band7 : ([1, 2, 3].all fun w => sqs.all (bandOk (nmAt 7) w)) = true := by decide +kernel
theorem band8 : ([1, 2, 3].all fun w => sqs.all (bandOk (nmAt 8) w)) = true := by decide +kernel
theorem band9 : ([1, 2, 3].all fun w => sqs.all (bandOk (nmAt 9) w)) = true := by decide +kernel
theorem band10 : ([1, 2, 3].all fun w => sqs.all (bandOk (nmAt 10) w)) = true := by decide +kernel
theorem part_ok : (dvL.all fun n => sqs.all (partOk n)) = true := by decide +kernel
theorem bands {n : List Nat} (hn : n ∈ nmL) {w : Int} (hw : w = 1 ∨ w = 2 ∨ w = 3) {p : Int × Int} (hp : p ∈ sqs) : bandOk n w p = true := by
  have key : ([1, 2, 3].all fun w => sqs.all (bandOk n w)) = true := by
    rw [nmL] at hn
    simp only [List.mem_cons, List.not_mem_nil, or_false] at hn
    rcases hn with h | h | h | h | h | h | h | h | h | h | h <;> subst h
    · exact band0
    · exact band1
    · exact band2
    · exact band3
    · exact band4
    · exact band5
    · exact band6
    · exact band7
    · exact band8
    · exact band9
    · exact band10
  rw [List.all_eq_true] at key
  have q := key w (by rcases hw with h | h | h <;> subst h <;> simp)
  rw [List.all_eq_true] at q
  exact q p hp
theorem parts {n : List Nat} (hn : n ∈ dvL) {p : Int × Int} (hp : p ∈ sqs) : partOk n p = true := by
  have q := List.all_eq_true.mp part_ok n hn
  exact List.all_eq_true.mp q p hp
/-- one square's turn -/
def sqBody : MS := sSeq (sIf (tV (e2 (vEq true) (eBi (loc F_on) [eVar 2, eVar 5, eVar 6, eVar 3]) (eBi (loc F_lon) [eVar 2, eVar 5, eVar 6, eVar 3]))) (sRet (eC (.bl false))) (sNil)) (sIf (tV (e2 (vEq true) (eBi (loc F_part) [eVar 4, eVar 5, eVar 6, eC (.int 0)]) (eBi (loc F_lin) [eVar 4, eVar 5, eVar 6]))) (sRet (eC (.bl false))) (sNil))
theorem ne_same {v : CV} {hp : Hc} (h : ∀ os, eqC os v v = some true) : vEq true v v hp = .ok (.bl false) hp := by
  unfold vEq
  rw [h]
  rfl
theorem sq_turn {n dv : List Nat} (hn : n ∈ nmL) (hd : dv ∈ dvL) {w : Int} (hw : w = 1 ∨ w = 2 ∨ w = 3) {p : Int × Int} (hp : p ∈ sqs) (s d : Option CV) (h : Hc) :
    sqBody [s, d, some (.str n), some (.int w), some (.str dv), some (.int p.1), some (.int p.2)] h = .ok (.nx [s, d, some (.str n), some (.int w), some (.str dv), some (.int p.1), some (.int p.2)]) h := by
  obtain ⟨v, a1, a2, a3⟩ := same_loc (bands hn hw hp) rfl rfl h
  obtain ⟨u, b1, b2, b3⟩ := same_loc (parts hd hp) rfl rfl h
  have t1 : (tV (e2 (vEq true) (eBi (loc F_on) [eVar 2, eVar 5, eVar 6, eVar 3]) (eBi (loc F_lon) [eVar 2, eVar 5, eVar 6, eVar 3]))) [s, d, some (.str n), some (.int w), some (.str dv), some (.int p.1), some (.int p.2)] h = .ok false h := by
    show ((e2 (vEq true) (eBi (loc F_on) [eVar 2, eVar 5, eVar 6, eVar 3]) (eBi (loc F_lon) [eVar 2, eVar 5, eVar 6, eVar 3])) _ h).bind asB = _
    have q : (e2 (vEq true) (eBi (loc F_on) [eVar 2, eVar 5, eVar 6, eVar 3]) (eBi (loc F_lon) [eVar 2, eVar 5, eVar 6, eVar 3])) [s, d, some (.str n), some (.int w), some (.str dv), some (.int p.1), some (.int p.2)] h = .ok (.bl false) h := by
      show ((loc F_on [.str n, .int p.1, .int p.2, .int w] h).bind fun x hp => (loc F_lon [.str n, .int p.1, .int p.2, .int w] hp).bind fun y hp => vEq true x y hp) = _
      rw [a1]
      show ((loc F_lon [.str n, .int p.1, .int p.2, .int w] h).bind fun y hp => vEq true v y hp) = _
      rw [a2]
      exact ne_same a3
    rw [q]
    rfl
  have t2 : (tV (e2 (vEq true) (eBi (loc F_part) [eVar 4, eVar 5, eVar 6, eC (.int 0)]) (eBi (loc F_lin) [eVar 4, eVar 5, eVar 6]))) [s, d, some (.str n), some (.int w), some (.str dv), some (.int p.1), some (.int p.2)] h = .ok false h := by
    show ((e2 (vEq true) (eBi (loc F_part) [eVar 4, eVar 5, eVar 6, eC (.int 0)]) (eBi (loc F_lin) [eVar 4, eVar 5, eVar 6])) _ h).bind asB = _
    have q : (e2 (vEq true) (eBi (loc F_part) [eVar 4, eVar 5, eVar 6, eC (.int 0)]) (eBi (loc F_lin) [eVar 4, eVar 5, eVar 6])) [s, d, some (.str n), some (.int w), some (.str dv), some (.int p.1), some (.int p.2)] h = .ok (.bl false) h := by
      show ((loc F_part [.str dv, .int p.1, .int p.2, .int 0] h).bind fun x hp => (loc F_lin [.str dv, .int p.1, .int p.2] hp).bind fun y hp => vEq true x y hp) = _
      rw [b1]
      show ((loc F_lin [.str dv, .int p.1, .int p.2] h).bind fun y hp => vEq true u y hp) = _
      rw [b2]
      exact ne_same b3
    rw [q]
    rfl
  unfold sqBody
  refine (sSeq_nx (env1 := [s, d, some (.str n), some (.int w), some (.str dv), some (.int p.1), some (.int p.2)]) (hp1 := h) ?_).trans ?_
  · unfold sIf RS.of
    rw [t1]
    rfl
  · unfold sIf RS.of
    rw [t2]
    rfl
/-- the loop over the squares -/
theorem sq_loop {n dv : List Nat} (hn : n ∈ nmL) (hd : dv ∈ dvL) {w : Int} (hw : w = 1 ∨ w = 2 ∨ w = 3) (s d x y : Option CV) (h : Hc) :
    ∃ env', sFor (mIt (eCall0 F_squares) itAny) (gTp 2 (gsCons (gNm 5) (gsCons (gNm 6) (gsNil)))) sqBody [s, d, some (.str n), some (.int w), some (.str dv), x, y] h = .ok (.nx env') h := by
  have i : mIt (eCall0 F_squares) itAny [s, d, some (.str n), some (.int w), some (.str dv), x, y] h = .ok (snap (sqs.map pt)) h := by
    unfold mIt eCall0
    rw [squares_is]
    rfl
  obtain ⟨env', _, e⟩ := for_snap (xs := sqs.map pt) (tg := gTp 2 (gsCons (gNm 5) (gsCons (gNm 6) (gsNil)))) (body := sqBody) (hp := h) (fun env => ∃ x y, env = [s, d, some (.str n), some (.int w), some (.str dv), x, y])
    (fun q hq env ⟨x, y, he⟩ => by
      obtain ⟨p, hp, rfl⟩ := List.mem_map.mp hq
      subst he
      exact ⟨_, _, rfl, sq_turn hn hd hw hp s d h, _, _, rfl⟩) (snap (sqs.map pt)).fuel 0 [s, d, some (.str n), some (.int w), some (.str dv), x, y] ⟨x, y, rfl⟩ (Nat.le_refl _) (Nat.zero_le _)
  refine ⟨env', ?_⟩
  unfold sFor
  rw [i]
  exact e
/-- the law's body -/
def lawBody : MS := sSeq (sPar 2 3 [e2 vIx (eC c_NAMES) (eBi gRoll [eVar 1, eC (.int 11)]), e2 vAdd (eC (.int 1)) (eBi gRoll [eVar 1, eC (.int 3)])]) (sSeq (sAsg (gNm 4) (e2 vIx (eLst (dvL.map fun n => eC (.str n))) (eBi gRoll [eVar 1, eC (.int 7)]))) (sFor (mIt (eCall0 F_squares) itAny) (gTp 2 (gsCons (gNm 5) (gsCons (gNm 6) (gsNil)))) sqBody))
theorem body_ok (s : CV) (j d : Nat) (a b c : Int) (hp : Hc) (g : Begun j d a b c hp) : ∃ env2 hp2, lawBody (some s :: some (.ref d) :: List.replicate 5 none) hp = .ok (.nx env2) hp2 ∧ Keeps d hp hp2 := by
  obtain ⟨r1, a1, b1, c1, hp1, e1, l1, u1, g1, n1, k1⟩ := g.roll (m := 11) (by decide) (by decide)
  obtain ⟨r2, a2, b2, c2, hp2, e2, l2, u2, g2, n2, k2⟩ := g1.roll (m := 3) (by decide) (by decide)
  obtain ⟨g3, n3, k3⟩ := g2.push (.lst (dvL.map .str))
  obtain ⟨r4, a4, b4, c4, hp4, e4, l4, u4, g4, n4, k4⟩ := g3.roll (m := 7) (by decide) (by decide)
  obtain ⟨nm, hnm, q1⟩ := atI_mem (xs := nmL.map CV.str) l1 (by simpa [nmL] using u1)
  obtain ⟨n, hn, rfl⟩ := List.mem_map.mp hnm
  obtain ⟨dvc, hdv, q2⟩ := atI_mem (xs := dvL.map CV.str) l4 (by simpa [dvL] using u4)
  obtain ⟨dv, hd, rfl⟩ := List.mem_map.mp hdv
  have hw : 1 + r2 = 1 ∨ 1 + r2 = 2 ∨ 1 + r2 = 3 := by omega
  have x1 : vIx c_NAMES (.int r1) hp1 = .ok (.str n) hp1 := by
    show (match atI (nmL.map CV.str) r1 with | some v => R.ok v hp1 | none => .stuck) = _
    rw [q1]
  have m1 : (Bl.e2 vIx (eC c_NAMES) (eBi gRoll [eVar 1, eC (.int 11)])) (some s :: some (.ref d) :: List.replicate 5 none) hp = .ok (.str n) hp1 := by
    show ((gRoll [.ref d, .int 11] hp).bind fun y hp => vIx c_NAMES y hp) = _
    rw [e1]
    exact x1
  have m2 : (Bl.e2 vAdd (eC (.int 1)) (eBi gRoll [eVar 1, eC (.int 3)])) (some s :: some (.ref d) :: List.replicate 5 none) hp1 = .ok (.int (1 + r2)) hp2 := by
    show ((gRoll [.ref d, .int 3] hp1).bind fun y hp => vAdd (.int 1) y hp) = _
    rw [e2]
    rfl
  have ev : evA [Bl.e2 vIx (eC c_NAMES) (eBi gRoll [eVar 1, eC (.int 11)]), Bl.e2 vAdd (eC (.int 1)) (eBi gRoll [eVar 1, eC (.int 3)])] (some s :: some (.ref d) :: List.replicate 5 none) hp = .ok [.str n, .int (1 + r2)] hp2 := by
    have ev2 : evA [Bl.e2 vAdd (eC (.int 1)) (eBi gRoll [eVar 1, eC (.int 3)])] (some s :: some (.ref d) :: List.replicate 5 none) hp1 = .ok [.int (1 + r2)] hp2 := (bind_ok m2).trans rfl
    exact (bind_ok m1).trans ((bind_ok ev2).trans rfl)
  have p1 : sPar 2 3 [Bl.e2 vIx (eC c_NAMES) (eBi gRoll [eVar 1, eC (.int 11)]), Bl.e2 vAdd (eC (.int 1)) (eBi gRoll [eVar 1, eC (.int 3)])] (some s :: some (.ref d) :: List.replicate 5 none) hp = .ok (.nx [some s, some (.ref d), some (.str n), some (.int (1 + r2)), none, none, none]) hp2 := by
    unfold sPar
    rw [ev]
    rfl
  have lst : (eLst (dvL.map fun n => eC (.str n))) [some s, some (.ref d), some (.str n), some (.int (1 + r2)), none, none, none] hp2 = .ok (.ref hp2.N) (hp2.push (.lst (dvL.map .str))) := rfl
  have at4 : hp4.os[hp2.N]? = some (.lst (dvL.map .str)) := by
    have hl : hp2.N < (hp2.push (.lst (dvL.map .str))).N := by rw [Hc.push_N]; exact Nat.lt_succ_self _
    have ne : hp2.N ≠ d := Nat.ne_of_gt (List.getElem?_eq_some_iff.mp g2.dice).1
    rw [k4.2 hp2.N ne hl]
    show (hp2.os ++ [_])[hp2.os.length]? = _
    rw [List.getElem?_append_right (Nat.le_refl _), Nat.sub_self]
    rfl
  have x2 : vIx (.ref hp2.N) (.int r4) hp4 = .ok (.str dv) hp4 := by
    unfold vIx seqItems
    simp only [at4, q2]
  have m4 : (Bl.e2 vIx (eLst (dvL.map fun n => eC (.str n))) (eBi gRoll [eVar 1, eC (.int 7)])) [some s, some (.ref d), some (.str n), some (.int (1 + r2)), none, none, none] hp2 = .ok (.str dv) hp4 := by
    refine (bind_ok lst).trans ?_
    show ((gRoll [.ref d, .int 7] (hp2.push (.lst (dvL.map .str)))).bind fun y hp => vIx (.ref hp2.N) y hp) = _
    rw [e4]
    exact x2
  obtain ⟨env', lp⟩ := sq_loop hn hd hw (some s) (some (.ref d)) none none hp4
  refine ⟨env', hp4, ?_, ?_⟩
  · exact (sSeq_nx p1).trans ((sSeq_nx (sAsg_ok m4 rfl)).trans lp)
  · exact ((k1.trans (Nat.le_of_eq n1.symm) k2).trans (by rw [n2, n1]; exact Nat.le_refl _) k3).trans (by rw [Hc.push_N, n2, n1]; exact Nat.le_succ _) k4
theorem law_ok (ns : List Int) : ∃ hp', F_law [.lst (ns.map .int)] ⟨0, []⟩ = .ok (.bl true) hp' :=
  law_frame (n := 5) (f := F_rounds) (body := lawBody) rounds_begin body_ok ns
/-! ### the head -/
abbrev R : PySem.W.OpenRow := PySem.W.OpenLaw.row PySem.Challenge.rw_blazonhall_k20_shapes
abbrev hk : PySem.W.Hook := He.hookX 4 hfa hfn [] [] hex
def ob (s : PySem.W.SharedT) : He.AlX := He.obsX 4 hfa hfn [] [] hex (HandSHeadRun.getT s)
theorem ob_eq (s : PySem.W.SharedT) : ob s = hk.obs s.abs := He.obsX_eq (HandSHeadRun.getT_eq s)
def looseN : List PySem.Str := ["BlazonFault", "BadShape", "WIDE", "HIGH", "SPANS", "within", "squares", "NAMES", "on_band", "is_border", "part_of", "saltire_part", "_law_dice", "_law_roll", "_law_rounds", "_law_on", "_law_in"]
theorem run (w : World) : HandSHeadRun.RunEq R (PySem.W.view R.prog [22]) hk ob 2000 looseN w := by
  intro os
  kernel_rfl
def Γof (K : PySem.W.Frag) : Gx := ⟨K, fun _ => 0, fun _ => "", fun _ => 0, []⟩
end K20
open PySem PySem.W PySem.Calls PyProof.Rows
theorem PySem.Challenge.cw_blazonhall_k20_shapes_holds : PySem.Challenge.rw_blazonhall_k20_shapes.Holds := by
  w_on; o_law
  refine HandSHeadRun.head_any (r := K20.R) (q := view K20.R.prog [22]) (H := K20.hk) (ob := K20.ob) (M := 2000) (loose := K20.looseN) (d := HandSHeadRun.topDef K20.R.prog 22) (kwd := []) K20.ob_eq
    (by kernel_rfl) (fun s => by kernel_rfl) K20.run (by kernel_rfl) (by kernel_rfl) (by kernel_rfl) (by rfl) (by first | assumption | decide +kernel) (by decide +kernel) ⟨rfl, rfl, rfl, rfl, rfl, by decide +kernel⟩ ?hw ?hc
  case hw => w_witness2
  case hc =>
    refine Bl.law_walk (l := PySem.Challenge.rw_blazonhall_k20_shapes) (n := 63) (k := 5) (x := "script") rfl (by decide) (by kernel_rfl) ⟨rfl, by decide, by decide⟩ ?F
    intro w mg fa h Y G hmg0
    obtain ⟨K, KX, c⟩ := Y
    have hmg : mg ("law" : PySem.Str) = some (.ref fa) := by
      have e : (HandSHeadRun.topDef K20.R.prog 22).name = ("law" : PySem.Str) := by kernel_rfl
      rw [← e]
      exact hmg0
    have fx : K20.Fx K mg (K20.Γof K) := K20.facts rfl KX G c.t.d c.more
    obtain ⟨f, fd, h1, h2, _, h4⟩ := fx.d_law.ex
    have ef : f = fa := by
      have z := h2.symm.trans hmg
      exact PySem.Value.ref.inj (Option.some.inj z)
    subst ef
    exact ⟨K, fd, K20.Γof K, K20.F_law, KX, rfl, rfl, fun s u => h4 s [u] rfl, K20.law_ok, fun base _ _ => K20.ok_law fx rfl h1⟩
